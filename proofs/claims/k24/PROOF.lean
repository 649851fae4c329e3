import PyProof.Rows.All
import Wide.All
import OpenK.AllK
import Wide.FinOn
import HandS.ForMost
import HandS.ForExc
import HandS.Walk
import HandS.TryMany
import HandS.Lambda
import HandS.TupAny
import HandS.TupMul
import HandS.Deep
import HandS.Rev
import HandS.Zip
import HandS.Conv
import HandS.Codes
import HandS.IsInst
import HandS.Small
import HandS.Flow
import HandS.NoneIn
import HandS.Style
import HandS.SortInts
import KE.KSortTup
import HandS.EndOwn
import PyProof.GenQ
import HandS.GenOver
import PyProof.ConsumeS
import HandS.TupLe
import PySem.Challenge.RW_grouphall_k24_rings_of_beads
set_option Elab.async false
set_option linter.all false
set_option maxRecDepth 100000
/-! values as trees, a small heap of cells, worlds -/
namespace DL
open PySem PySem.Spec L2

inductive D where
  | non | bl (b : Bool) | int (i : Int) | str (x : Str) | tup (l : List D) | ref (r : Nat)

/-- what stands in a cell: a list; a list that is read alone; three ints that nobody knows; a dict; an instance; a thing by its number -/
inductive Cell where
  | lst (l : List D) | frz (l : List D) | dice | dct (t : Bool) (kvs : List (D × D)) | ins (c : Nat) (fs : List (Nat × D))

def Cell.mut : Cell → Bool
  | .frz _ => false
  | _ => true

structure Hd where
  nx : Nat
  cs : List (Nat × Cell)

def look (r : Nat) : List (Nat × Cell) → Option Cell
  | [] => none
  | p :: t => match Nat.beq p.1 r with
    | true => some p.2
    | false => look r t
def Hd.get (η : Hd) (r : Nat) : Option Cell := look r η.cs
def put (r : Nat) (c : Cell) : List (Nat × Cell) → List (Nat × Cell)
  | [] => []
  | p :: t => match Nat.beq p.1 r with
    | true => (r, c) :: t
    | false => p :: put r c t
def Hd.set (η : Hd) (r : Nat) (c : Cell) : Hd := ⟨η.nx, put r c η.cs⟩
def Hd.new (η : Hd) (c : Cell) : Hd := ⟨Nat.succ η.nx, (η.nx, c) :: η.cs⟩

theorem look_put (r : Nat) (c : Cell) (q : Nat) : ∀ l : List (Nat × Cell), look q (put r c l) = if q = r then (look r l).map (fun _ => c) else look q l
  | [] => by simp [put, look]
  | p :: t => by
    have ih := look_put r c q t
    unfold put
    cases e : Nat.beq p.1 r with
    | true =>
      have e' : p.1 = r := Nat.eq_of_beq_eq_true e
      by_cases h : q = r
      · subst h
        have e2 : Nat.beq q q = true := Nat.beq_refl q
        simp [look, e, e2]
      · have e2 : Nat.beq r q = false := by
          cases z : Nat.beq r q with
          | false => rfl
          | true => exact absurd (Nat.eq_of_beq_eq_true z).symm h
        have e3 : Nat.beq p.1 q = false := by rw [e']; exact e2
        simp [look, e2, e3, h]
    | false =>
      by_cases h : q = r
      · subst h
        simp only [look, e, ih, if_true]
      · simp only [look, ih, if_neg h]
theorem Hd.get_set (η : Hd) (r : Nat) (c : Cell) (q : Nat) : (η.set r c).get q = if q = r then (η.get r).map (fun _ => c) else η.get q := look_put r c q η.cs
theorem Hd.get_new (η : Hd) (c : Cell) (q : Nat) : (η.new c).get q = if q = η.nx then some c else η.get q := by
  unfold Hd.get Hd.new
  by_cases h : q = η.nx
  · subst h
    have e2 : Nat.beq η.nx η.nx = true := Nat.beq_refl _
    simp [look, e2]
  · have e2 : Nat.beq η.nx q = false := by
      cases z : Nat.beq η.nx q with
      | false => rfl
      | true => exact absurd (Nat.eq_of_beq_eq_true z).symm h
    simp [look, e2, h]

/-! ### worlds -/
structure Wl where
  μ : Nat → Addr
  η : Hd
  H : Hp

section
variable (W : Wl)
mutual
def RelD : D → V → Prop
  | .non, v => v = .non
  | .bl b, v => v = .bl b
  | .int i, v => v = .int i
  | .str x, v => v = .str x
  | .ref r, v => r < W.η.nx ∧ v = .ref (W.μ r)
  | .tup ds, v => ∃ a vs, v = .ref a ∧ W.H a = some (.tup vs) ∧ RelDs ds vs
def RelDs : List D → List V → Prop
  | [], vs => vs = []
  | d :: ds, vs => ∃ v vs', vs = v :: vs' ∧ RelD d v ∧ RelDs ds vs'
end
end
section
variable {K : PySem.W.Frag} {W : Wl}
theorem RelDs.length : ∀ {ds : List D} {vs : List V}, RelDs W ds vs → ds.length = vs.length
  | [], _, h => by rw [RelDs] at h; subst h; rfl
  | d :: ds, _, h => by
    rw [RelDs] at h
    obtain ⟨v, vs', rfl, _, h2⟩ := h
    simp [RelDs.length h2]
theorem RelDs.nil : RelDs W [] [] := by rw [RelDs]
theorem RelDs.cons {d : D} {ds : List D} {v : V} {vs : List V} (h : RelD W d v) (h2 : RelDs W ds vs) : RelDs W (d :: ds) (v :: vs) := by
  rw [RelDs]; exact ⟨v, vs, rfl, h, h2⟩
theorem RelDs.get : ∀ {ds : List D} {vs : List V} {i : Nat} {v : V}, RelDs W ds vs → vs[i]? = some v → ∃ d, ds[i]? = some d ∧ RelD W d v
  | [], _, i, v, h, e => by rw [RelDs] at h; subst h; simp at e
  | d :: ds, _, 0, v, h, e => by
    rw [RelDs] at h
    obtain ⟨v', vs', rfl, h1, h2⟩ := h
    simp at e; subst e
    exact ⟨d, rfl, h1⟩
  | d :: ds, _, i + 1, v, h, e => by
    rw [RelDs] at h
    obtain ⟨v', vs', rfl, h1, h2⟩ := h
    simp at e
    obtain ⟨d', e', r⟩ := RelDs.get h2 e
    exact ⟨d', by simpa using e', r⟩
theorem RelDs.get' : ∀ {ds : List D} {vs : List V} {i : Nat} {d : D}, RelDs W ds vs → ds[i]? = some d → ∃ v, vs[i]? = some v ∧ RelD W d v
  | [], _, i, v, h, e => by simp at e
  | d :: ds, _, 0, v, h, e => by
    rw [RelDs] at h
    obtain ⟨v', vs', rfl, h1, h2⟩ := h
    simp at e; subst e
    exact ⟨v', rfl, h1⟩
  | d :: ds, _, i + 1, v, h, e => by
    rw [RelDs] at h
    obtain ⟨v', vs', rfl, h1, h2⟩ := h
    simp at e
    obtain ⟨d', e', r⟩ := RelDs.get' h2 e
    exact ⟨d', by simpa using e', r⟩
theorem RelDs.append : ∀ {ds ds' : List D} {vs vs' : List V}, RelDs W ds vs → RelDs W ds' vs' → RelDs W (ds ++ ds') (vs ++ vs')
  | [], _, _, _, h, h2 => by rw [RelDs] at h; subst h; exact h2
  | d :: ds, _, _, _, h, h2 => by
    rw [RelDs] at h
    obtain ⟨v', vs', rfl, h1, h3⟩ := h
    exact RelDs.cons h1 (RelDs.append h3 h2)
theorem RelDs.take : ∀ {ds : List D} {vs : List V} (n : Nat), RelDs W ds vs → RelDs W (ds.take n) (vs.take n)
  | [], _, n, h => by rw [RelDs] at h; subst h; simp; exact .nil
  | d :: ds, _, 0, h => by simp; exact .nil
  | d :: ds, _, n + 1, h => by
    rw [RelDs] at h
    obtain ⟨v', vs', rfl, h1, h3⟩ := h
    exact RelDs.cons h1 (RelDs.take n h3)
theorem RelDs.drop : ∀ {ds : List D} {vs : List V} (n : Nat), RelDs W ds vs → RelDs W (ds.drop n) (vs.drop n)
  | [], _, n, h => by rw [RelDs] at h; subst h; simp; exact .nil
  | d :: ds, _, 0, h => h
  | d :: ds, _, n + 1, h => by
    rw [RelDs] at h
    obtain ⟨v', vs', rfl, h1, h3⟩ := h
    exact RelDs.drop n h3
theorem RelDs.set {d : D} {v : V} (r : RelD W d v) : ∀ {ds : List D} {vs : List V} (n : Nat), RelDs W ds vs → RelDs W (ds.set n d) (vs.set n v)
  | [], _, n, h => by rw [RelDs] at h; subst h; exact .nil
  | d :: ds, _, 0, h => by
    rw [RelDs] at h
    obtain ⟨v', vs', rfl, h1, h3⟩ := h
    exact RelDs.cons r h3
  | d :: ds, _, n + 1, h => by
    rw [RelDs] at h
    obtain ⟨v', vs', rfl, h1, h3⟩ := h
    exact RelDs.cons h1 (RelDs.set r n h3)
theorem RelDs.reverse {ds : List D} {vs : List V} (h : RelDs W ds vs) : RelDs W ds.reverse vs.reverse := by
  induction ds generalizing vs with
  | nil => rw [RelDs] at h; subst h; exact .nil
  | cons d ds ih =>
    rw [RelDs] at h
    obtain ⟨v', vs', rfl, h1, h3⟩ := h
    simp only [List.reverse_cons]
    exact (ih h3).append (RelDs.cons h1 .nil)
end

/-- the names of attributes by number; the classes by number -/
structure Names where
  fld : Nat → Str
  cls : Nat → Addr
  /-- the tables of code objects -/
  tabs : List (Addr × Str)

def RelFs (W : Wl) (N : Names) : List (Nat × D) → List (Str × V) → Prop
  | [], fs => fs = []
  | (k, d) :: r, fs => ∃ v fs', fs = (N.fld k, v) :: fs' ∧ RelD W d v ∧ RelFs W N r fs'

/-! keys -/
def D.key : D → Option Key
  | .int i => some (.inl i)
  | .str s => some (.inr s)
  | _ => none
def keysOf : List D → Option (List Key)
  | [] => some []
  | d :: ds => match D.key d, keysOf ds with
    | some k, some ks => some (k :: ks)
    | _, _ => none
def D.tkey : D → Option (List Key)
  | .tup ds => keysOf ds
  | _ => none
def RelK (W : Wl) : List (D × D) → List (Key × V) → Prop
  | [], ps => ps = []
  | (k, d) :: r, ps => ∃ k' v ps', ps = (k', v) :: ps' ∧ k.key = some k' ∧ RelD W d v ∧ RelK W r ps'
def RelT (W : Wl) : List (D × D) → List (List Key × V) → Prop
  | [], ps => ps = []
  | (k, d) :: r, ps => ∃ k' v ps', ps = (k', v) :: ps' ∧ k.tkey = some k' ∧ RelD W d v ∧ RelT W r ps'

/-- what the address of a cell holds -/
def RelC (K : PySem.W.Frag) (N : Names) (W : Wl) (a : Addr) : Cell → Prop
  | .lst ds => ∃ vs, W.H a = some (.lst vs) ∧ RelDs W ds vs ∧ ds.length ≤ sizeLine
  | .frz ds => ∃ vs, W.H a = some (.lst vs) ∧ RelDs W ds vs ∧ ds.length ≤ sizeLine
  | .dice => ∃ x y z, W.H a = some (.lst [.int x, .int y, .int z])
  | .dct false kvs => ∃ ps, W.H a = some (.dK ps) ∧ RelK W kvs ps ∧ kvs.length ≤ sizeLine
  | .dct true kvs => ∃ ps, W.H a = some (.dT ps) ∧ RelT W kvs ps ∧ kvs.length ≤ sizeLine
  | .ins c fs => ∃ dx gs, W.H a = some (.ins (N.cls c) dx gs) ∧ RelFs W N fs gs ∧ fs.length ≤ 900

structure Wl.Ok (K : PySem.W.Frag) (N : Names) (W : Wl) : Prop where
  lt : ∀ r c, W.η.get r = some c → r < W.η.nx
  cell : ∀ r c, W.η.get r = some c → RelC K N W (W.μ r) c
  inj : ∀ r s c d, W.η.get r = some c → W.η.get s = some d → W.μ r = W.μ s → r = s
  tab : LamX.Tabs N.tabs W.H

/-- no table of code objects -/
def noT (o : HO) : Prop := ∀ ps, o ≠ .tbl ps
/-- nothing stands there, or a table -/
def NoC (H : Hp) (a : Addr) : Prop := ∀ o, H a = some o → ¬ noT o
theorem NoC.of {H : Hp} {a : Addr} (h : H a = none) : NoC H a := fun o e => by rw [h] at e; cases e

/-- what a step may do -/
structure Ext (W W' : Wl) : Prop where
  nx : W.η.nx ≤ W'.η.nx
  mu : ∀ r, r < W.η.nx → W'.μ r = W.μ r
  fr : ∀ a o, W.H a = some o → noT o → (∀ r c, W.η.get r = some c → c.mut = true → W.μ r ≠ a) → W'.H a = some o
  th : ∀ a o, W.H a = some o → noT o → ∃ o', W'.H a = some o' ∧ noT o'
  cs : ∀ r c, W'.η.get r = some c → (∃ c0, W.η.get r = some c0 ∧ (c.mut = true → c0.mut = true)) ∨ (W.η.nx ≤ r ∧ NoC W.H (W'.μ r))

theorem Ext.refl (W : Wl) : Ext W W := ⟨Nat.le_refl _, fun _ _ => rfl, fun _ _ h _ _ => h, fun _ o h t => ⟨o, h, t⟩, fun _ c h => .inl ⟨c, h, id⟩⟩
section
variable {K : PySem.W.Frag} {N : Names} {W W1 W2 W' : Wl}
theorem Ext.trans (o : W.Ok K N) (o1 : W1.Ok K N) (a : Ext W W1) (b : Ext W1 W2) : Ext W W2 where
  nx := Nat.le_trans a.nx b.nx
  mu := fun r h => (b.mu r (Nat.lt_of_lt_of_le h a.nx)).trans (a.mu r h)
  fr := fun x ob h ht hn => by
    refine b.fr x ob (a.fr x ob h ht hn) ht fun r c e m => ?_
    rcases a.cs r c e with ⟨c0, e0, m0⟩ | ⟨_, f⟩
    · rw [a.mu r (o.lt r c0 e0)]; exact hn r c0 e0 (m0 m)
    · intro z; exact f ob (by rw [z]; exact h) ht
  th := fun x ob h ht => by obtain ⟨o', h', t'⟩ := a.th x ob h ht; exact b.th x o' h' t'
  cs := fun r c e => by
    rcases b.cs r c e with ⟨c1, e1, m1⟩ | ⟨h1, f⟩
    · rcases a.cs r c1 e1 with ⟨c0, e0, m0⟩ | ⟨h2, f⟩
      · exact .inl ⟨c0, e0, fun m => m0 (m1 m)⟩
      · exact .inr ⟨h2, by rw [b.mu r (o1.lt r c1 e1)]; exact f⟩
    · refine .inr ⟨Nat.le_trans a.nx h1, fun ob q t => ?_⟩
      obtain ⟨o', h', t'⟩ := a.th _ _ q t
      exact f o' h' t'
/-- no cell stands where a tuple, a locked thing stands -/
theorem Wl.Ok.nocell (o : W.Ok K N) {a : Addr} {u : HO} (h : W.H a = some u) (hu : (∃ xs, u = .tup xs) ∨ (∃ ob v, u = .frz ob v) ∨ (∃ x, u = .own x)) : ∀ r c, W.η.get r = some c → c.mut = true → W.μ r ≠ a := by
  intro r c e m z
  have q := o.cell r c e
  rw [z] at q
  cases c with
  | frz _ => cases m
  | lst l => obtain ⟨vs, q, _⟩ := q; rw [h] at q; cases q; rcases hu with ⟨_, z⟩ | ⟨_, _, z⟩ | ⟨_, z⟩ <;> cases z
  | dice => obtain ⟨_, _, _, q⟩ := q; rw [h] at q; cases q; rcases hu with ⟨_, z⟩ | ⟨_, _, z⟩ | ⟨_, z⟩ <;> cases z
  | dct t l =>
    cases t
    · obtain ⟨vs, q, _⟩ := q; rw [h] at q; cases q; rcases hu with ⟨_, z⟩ | ⟨_, _, z⟩ | ⟨_, z⟩ <;> cases z
    · obtain ⟨vs, q, _⟩ := q; rw [h] at q; cases q; rcases hu with ⟨_, z⟩ | ⟨_, _, z⟩ | ⟨_, z⟩ <;> cases z
  | ins c fs => obtain ⟨_, _, q, _⟩ := q; rw [h] at q; cases q; rcases hu with ⟨_, z⟩ | ⟨_, _, z⟩ | ⟨_, z⟩ <;> cases z
theorem Ext.sqT (o : W.Ok K N) (x : Ext W W') {a : Addr} {vs : List V} (h : W.H a = some (.tup vs)) : W'.H a = some (.tup vs) :=
  x.fr a _ h (fun _ z => nomatch z) (o.nocell h (.inl ⟨_, rfl⟩))
mutual
theorem RelD.mono (o : W.Ok K N) (x : Ext W W') : ∀ {d : D} {v : V}, RelD W d v → RelD W' d v
  | .non, v, h => by rw [RelD] at *; exact h
  | .bl b, v, h => by rw [RelD] at *; exact h
  | .int i, v, h => by rw [RelD] at *; exact h
  | .str s, v, h => by rw [RelD] at *; exact h
  | .ref r, v, h => by rw [RelD] at *; exact ⟨Nat.lt_of_lt_of_le h.1 x.nx, by rw [x.mu r h.1]; exact h.2⟩
  | .tup ds, v, h => by
    rw [RelD] at *
    obtain ⟨a, vs, e, h1, h2⟩ := h
    exact ⟨a, vs, e, x.sqT o h1, RelDs.mono o x h2⟩
theorem RelDs.mono (o : W.Ok K N) (x : Ext W W') : ∀ {ds : List D} {vs : List V}, RelDs W ds vs → RelDs W' ds vs
  | [], vs, h => by rw [RelDs] at *; exact h
  | d :: ds, vs, h => by
    rw [RelDs] at *
    obtain ⟨v, vs', e, h1, h2⟩ := h
    exact ⟨v, vs', e, RelD.mono o x h1, RelDs.mono o x h2⟩
end
theorem RelFs.mono (o : W.Ok K N) (x : Ext W W') : ∀ {fs : List (Nat × D)} {gs : List (Str × V)}, RelFs W N fs gs → RelFs W' N fs gs
  | [], vs, h => by rw [RelFs] at *; exact h
  | (k, d) :: ds, vs, h => by
    rw [RelFs] at *
    obtain ⟨v, vs', e, h1, h2⟩ := h
    exact ⟨v, vs', e, RelD.mono o x h1, RelFs.mono o x h2⟩
theorem RelK.mono (o : W.Ok K N) (x : Ext W W') : ∀ {fs : List (D × D)} {gs : List (Key × V)}, RelK W fs gs → RelK W' fs gs
  | [], vs, h => by rw [RelK] at *; exact h
  | (k, d) :: ds, vs, h => by
    rw [RelK] at *
    obtain ⟨k', v, vs', e, h0, h1, h2⟩ := h
    exact ⟨k', v, vs', e, h0, RelD.mono o x h1, RelK.mono o x h2⟩
theorem RelT.mono (o : W.Ok K N) (x : Ext W W') : ∀ {fs : List (D × D)} {gs : List (List Key × V)}, RelT W fs gs → RelT W' fs gs
  | [], vs, h => by rw [RelT] at *; exact h
  | (k, d) :: ds, vs, h => by
    rw [RelT] at *
    obtain ⟨k', v, vs', e, h0, h1, h2⟩ := h
    exact ⟨k', v, vs', e, h0, RelD.mono o x h1, RelT.mono o x h2⟩
/-- a cell's relation where its address is as it was -/
theorem RelC.mono (o : W.Ok K N) (x : Ext W W') {a : Addr} {c : Cell} (h : RelC K N W a c) (e : ∀ ob, noT ob → W.H a = some ob → W'.H a = some ob) : RelC K N W' a c := by
  cases c with
  | lst l => obtain ⟨vs, h1, h2, h3⟩ := h; exact ⟨vs, e _ (fun _ z => nomatch z) h1, h2.mono o x, h3⟩
  | frz l => obtain ⟨vs, h1, h2, h3⟩ := h; exact ⟨vs, e _ (fun _ z => nomatch z) h1, h2.mono o x, h3⟩
  | dice => obtain ⟨p, q, r, h⟩ := h; exact ⟨p, q, r, e _ (fun _ z => nomatch z) h⟩
  | dct t l =>
    cases t
    · obtain ⟨vs, h1, h2, h3⟩ := h; exact ⟨vs, e _ (fun _ z => nomatch z) h1, h2.mono o x, h3⟩
    · obtain ⟨vs, h1, h2, h3⟩ := h; exact ⟨vs, e _ (fun _ z => nomatch z) h1, h2.mono o x, h3⟩
  | ins c l => obtain ⟨dx, vs, h1, h2, h3⟩ := h; exact ⟨dx, vs, e _ (fun _ z => nomatch z) h1, h2.mono o x, h3⟩

/-- a cell's address is tracked -/
theorem Wl.Ok.there (o : W.Ok K N) {r : Nat} {c : Cell} (h : W.η.get r = some c) : ∃ ob, W.H (W.μ r) = some ob ∧ noT ob := by
  have q := o.cell r c h
  cases c with
  | frz l => obtain ⟨vs, q, _⟩ := q; exact ⟨_, q, fun _ z => nomatch z⟩
  | lst l => obtain ⟨vs, q, _⟩ := q; exact ⟨_, q, fun _ z => nomatch z⟩
  | dice => obtain ⟨_, _, _, q⟩ := q; exact ⟨_, q, fun _ z => nomatch z⟩
  | dct t l =>
    cases t
    · obtain ⟨vs, q, _⟩ := q; exact ⟨_, q, fun _ z => nomatch z⟩
    · obtain ⟨vs, q, _⟩ := q; exact ⟨_, q, fun _ z => nomatch z⟩
  | ins c fs => obtain ⟨_, _, q, _⟩ := q; exact ⟨_, q, fun _ z => nomatch z⟩
theorem Wl.Ok.noTab (o : W.Ok K N) {r : Nat} {c : Cell} {u : HO} (h : W.η.get r = some c) (hu : W.H (W.μ r) = some u) (z : (∃ ps, u = .tbl ps) ∨ (∃ φ, u = .ext φ)) : False := by
  have q := o.cell r c h
  cases c with
  | frz l => obtain ⟨vs, q, _⟩ := q; rw [hu] at q; cases q; rcases z with ⟨_, z⟩ | ⟨_, z⟩ <;> cases z
  | lst l => obtain ⟨vs, q, _⟩ := q; rw [hu] at q; cases q; rcases z with ⟨_, z⟩ | ⟨_, z⟩ <;> cases z
  | dice => obtain ⟨_, _, _, q⟩ := q; rw [hu] at q; cases q; rcases z with ⟨_, z⟩ | ⟨_, z⟩ <;> cases z
  | dct t l =>
    cases t
    · obtain ⟨vs, q, _⟩ := q; rw [hu] at q; cases q; rcases z with ⟨_, z⟩ | ⟨_, z⟩ <;> cases z
    · obtain ⟨vs, q, _⟩ := q; rw [hu] at q; cases q; rcases z with ⟨_, z⟩ | ⟨_, z⟩ <;> cases z
  | ins c fs => obtain ⟨_, _, q, _⟩ := q; rw [hu] at q; cases q; rcases z with ⟨_, z⟩ | ⟨_, z⟩ <;> cases z
/-- another cell does not stand there -/
theorem Wl.Ok.apart (o : W.Ok K N) {r q : Nat} {c d : Cell} (h : W.η.get r = some c) (h2 : W.η.get q = some d) (ne : q ≠ r) : W.μ q ≠ W.μ r := fun z => ne (o.inj q r d c h2 h z)
theorem tabs_keep {T : List (Addr × Str)} {H H' : Hp} (t : LamX.Tabs T H) (k : ∀ b o, H b = some o → (∃ ps, o = .tbl ps) ∨ (∃ φ, o = .ext φ) → H' b = some o) : LamX.Tabs T H' := fun p hp => by
  obtain ⟨ps, h1, h2, h3⟩ := t p hp
  refine ⟨ps, k _ _ h1 (.inl ⟨ps, rfl⟩), h2, fun pos cv hc => ?_⟩
  obtain ⟨c, e1, e2⟩ := h3 pos cv hc
  exact ⟨c, e1, k _ _ e2 (.inr ⟨_, rfl⟩)⟩
/-! ### the steps of worlds -/
/-- something new that is no cell -/
def Wl.lay (W : Wl) (p : Addr) (o : HO) : Wl := ⟨W.μ, W.η, upd W.H p o⟩
theorem Wl.Ok.lay (o : W.Ok K N) {p : Addr} {ob : HO} (hp : W.H p = none) : Ext W (W.lay p ob) ∧ (W.lay p ob).Ok K N := by
  have up : ∀ a x, W.H a = some x → (W.lay p ob).H a = some x := fun a x e => by
    show upd W.H p ob a = some x
    rw [upd_ne (ne_of_none e hp)]; exact e
  have x : Ext W (W.lay p ob) := ⟨Nat.le_refl _, fun _ _ => rfl, fun a u h _ _ => up a u h, fun a u h t => ⟨u, up a u h, t⟩, fun r c h => .inl ⟨c, h, id⟩⟩
  exact ⟨x, o.lt, fun r c e => (o.cell r c e).mono o x (fun ob _ => up _ ob), o.inj, tabs_keep o.tab fun b u h _ => up b u h⟩
/-- a new cell -/
def Wl.new (W : Wl) (p : Addr) (c : Cell) (o : HO) : Wl := ⟨fun r => if r = W.η.nx then p else W.μ r, W.η.new c, upd W.H p o⟩
theorem Wl.Ok.new (o : W.Ok K N) {p : Addr} {c : Cell} {ob : HO} (hp : W.H p = none) (hc : RelC K N (W.new p c ob) p c) : Ext W (W.new p c ob) ∧ (W.new p c ob).Ok K N := by
  have up : ∀ a x, W.H a = some x → (W.new p c ob).H a = some x := fun a x e => by
    show upd W.H p ob a = some x
    rw [upd_ne (ne_of_none e hp)]; exact e
  have mu : ∀ r, r < W.η.nx → (W.new p c ob).μ r = W.μ r := fun r h => by
    show (if r = W.η.nx then p else W.μ r) = W.μ r
    rw [if_neg (Nat.ne_of_lt h)]
  have gn : ∀ r, (W.new p c ob).η.get r = if r = W.η.nx then some c else W.η.get r := fun r => Hd.get_new _ _ _
  have x : Ext W (W.new p c ob) := by
    refine ⟨Nat.le_succ _, mu, fun a u h _ _ => up a u h, fun a u h t => ⟨u, up a u h, t⟩, fun r d h => ?_⟩
    rw [gn] at h
    by_cases e : r = W.η.nx
    · refine .inr ⟨Nat.le_of_eq e.symm, ?_⟩
      show NoC W.H (if r = W.η.nx then p else W.μ r)
      rw [if_pos e]; exact NoC.of hp
    · rw [if_neg e] at h
      exact .inl ⟨d, h, id⟩
  have pn : ∀ r d, W.η.get r = some d → W.μ r ≠ p := fun r d e => by
    obtain ⟨ob, q, _⟩ := o.there e
    exact ne_of_none q hp
  have mn : (W.new p c ob).μ W.η.nx = p := by
    show (if W.η.nx = W.η.nx then p else W.μ W.η.nx) = p
    rw [if_pos rfl]
  refine ⟨x, fun r d e => ?_, fun r d e => ?_, fun r s c1 d h1 h2 e => ?_, tabs_keep o.tab fun b u h _ => up b u h⟩
  · rw [gn] at e
    show r < Nat.succ W.η.nx
    by_cases h : r = W.η.nx
    · omega
    · rw [if_neg h] at e
      have := o.lt r d e; omega
  · rw [gn] at e
    by_cases h : r = W.η.nx
    · rw [if_pos h] at e; cases e
      rw [h, mn]; exact hc
    · rw [if_neg h] at e
      rw [mu r (o.lt r d e)]
      exact (o.cell r d e).mono o x (fun ob _ => up _ ob)
  · rw [gn] at h1 h2
    by_cases hr : r = W.η.nx
    · by_cases hs : s = W.η.nx
      · exact hr.trans hs.symm
      · rw [if_neg hs] at h2
        rw [hr, mn, mu s (o.lt s d h2)] at e
        exact absurd e.symm (pn s d h2)
    · rw [if_neg hr] at h1
      by_cases hs : s = W.η.nx
      · rw [hs, mn, mu r (o.lt r c1 h1)] at e
        exact absurd e (pn r c1 h1)
      · rw [if_neg hs] at h2
        rw [mu r (o.lt r c1 h1), mu s (o.lt s d h2)] at e
        exact o.inj r s c1 d h1 h2 e
theorem Wl.new_mu (W : Wl) (p : Addr) (c : Cell) (o : HO) : (W.new p c o).μ W.η.nx = p := by
  show (if W.η.nx = W.η.nx then p else W.μ W.η.nx) = p
  rw [if_pos rfl]
theorem Wl.new_ref (W : Wl) (p : Addr) (c : Cell) (o : HO) : RelD (W.new p c o) (.ref W.η.nx) (.ref p) := by
  rw [RelD]; exact ⟨Nat.lt_succ_self _, by rw [Wl.new_mu]⟩
/-- a cell changed -/
def Wl.put (W : Wl) (r : Nat) (c : Cell) (o : HO) : Wl := ⟨W.μ, W.η.set r c, upd W.H (W.μ r) o⟩
theorem Wl.Ok.put (o : W.Ok K N) {r : Nat} {c0 c : Cell} {ob : HO} (h0 : W.η.get r = some c0) (m0 : c0.mut = true) (hc : Ext W (W.put r c ob) → RelC K N (W.put r c ob) (W.μ r) c) (ht : noT ob := by intro _ z; cases z) : Ext W (W.put r c ob) ∧ (W.put r c ob).Ok K N := by
  have ne : ∀ a, a ≠ W.μ r → (W.put r c ob).H a = W.H a := fun a h => upd_ne h
  have gs : ∀ q, (W.put r c ob).η.get q = if q = r then some c else W.η.get q := fun q => by
    have := Hd.get_set W.η r c q
    rw [h0] at this
    exact this
  have x : Ext W (W.put r c ob) := by
    refine ⟨Nat.le_refl _, fun _ _ => rfl, fun a u h _ hn => ?_, fun a u h t => ?_, fun q d h => ?_⟩
    · rw [ne a (Ne.symm (hn r c0 h0 m0))]; exact h
    · by_cases z : a = W.μ r
      · exact ⟨ob, by rw [z]; exact upd_same, ht⟩
      · exact ⟨u, by rw [ne a z]; exact h, t⟩
    · rw [gs] at h
      by_cases z : q = r
      · rw [z]; exact .inl ⟨c0, h0, fun _ => m0⟩
      · rw [if_neg z] at h; exact .inl ⟨d, h, id⟩
  have hc := hc x
  refine ⟨x, fun q d e => ?_, fun q d e => ?_, fun q s c1 d h1 h2 e => ?_, tabs_keep o.tab fun b u h hu => ?_⟩
  · rw [gs] at e
    by_cases z : q = r
    · rw [z]; exact o.lt r c0 h0
    · rw [if_neg z] at e; exact o.lt q d e
  · rw [gs] at e
    by_cases z : q = r
    · rw [if_pos z] at e; cases e; rw [z]; exact hc
    · rw [if_neg z] at e
      exact (o.cell q d e).mono o x (fun ob' _ h' => by rw [ne _ (o.apart h0 e z)]; exact h')
  · rw [gs] at h1 h2
    have e' : W.μ q = W.μ s := e
    by_cases zq : q = r
    · by_cases zs : s = r
      · exact zq.trans zs.symm
      · rw [if_neg zs] at h2
        exact o.inj q s c0 d (by rw [zq]; exact h0) h2 e'
    · rw [if_neg zq] at h1
      by_cases zs : s = r
      · exact o.inj q s c1 c0 h1 (by rw [zs]; exact h0) e'
      · rw [if_neg zs] at h2
        exact o.inj q s c1 d h1 h2 e'
  · rw [ne b (fun z => o.noTab h0 (by rw [← z]; exact h) hu)]; exact h
/-- cells dropped: what is left of a world -/
theorem Ext.drop {η' : Hd} (x : Ext W W') (o' : W'.Ok K N) (nx : η'.nx = W'.η.nx) (sub : ∀ r c, η'.get r = some c → W'.η.get r = some c) : Ext W ⟨W'.μ, η', W'.H⟩ ∧ Wl.Ok K N ⟨W'.μ, η', W'.H⟩ := by
  have y : Ext W' ⟨W'.μ, η', W'.H⟩ := ⟨Nat.le_of_eq nx.symm, fun _ _ => rfl, fun _ _ h _ _ => h, fun a u h t => ⟨u, h, t⟩, fun r c h => .inl ⟨c, sub r c h, id⟩⟩
  refine ⟨⟨by rw [show (Wl.mk W'.μ η' W'.H).η.nx = W'.η.nx from nx]; exact x.nx, x.mu, x.fr, x.th, fun r c h => x.cs r c (sub r c h)⟩, fun r c h => ?_, fun r c h => ?_, fun r s c d h1 h2 e => ?_, o'.tab⟩
  · have := o'.lt r c (sub r c h); show r < η'.nx; omega
  · exact (o'.cell r c (sub r c h)).mono o' y (fun _ _ h => h)
  · exact o'.inj r s c d (sub r c h1) (sub s d h2) e
end

end DL

/-! judgements: a piece of syntax and what it computes over values as trees -/
namespace DL
open PySem PySem.Spec L2

/-- an exception: its class, its one field -/
structure Xc where
  c : Nat
  p : Option D
abbrev SD := List (Option D)
abbrev KV := D → Hd → Bool
abbrev KX := Xc → Hd → Bool
abbrev CE := SD → Hd → KV → KX → Bool
abbrev CT := SD → Hd → (Bool → Hd → Bool) → KX → Bool
abbrev CA := SD → Hd → (List D → Hd → Bool) → KX → Bool
structure KS where
  nx : SD → Hd → Bool
  rt : KV
  bk : SD → Hd → Bool
  ct : SD → Hd → Bool
  xc : KX
abbrev CS := SD → Hd → KS → Bool

structure Nm extends Names where
  xf : Nat → Str

def RelX (N : Nm) (W : Wl) (x : Xc) (cls : Value) (dd : Option Addr) : Prop :=
  cls = .ref (N.cls x.c) ∧ match x.p with
  | none => dd = none
  | some d => ∃ a v, dd = some a ∧ W.H a = some (.xd [(N.xf x.c, v)]) ∧ RelD W d v
structure RelS (W : Wl) (σd : SD) (σ : St) : Prop where
  len : σd.length = σ.length
  get : ∀ (i : Nat) (d : D), σd[i]? = some (some d) → ∃ v, σ[i]? = some (some v) ∧ RelD W d v
theorem RelS.mono {K : PySem.W.Frag} {N : Names} {W W' : Wl} {σd : SD} {σ : St} (o : W.Ok K N) (x : Ext W W') (h : RelS W σd σ) : RelS W' σd σ :=
  ⟨h.len, fun i d e => by obtain ⟨v, e', r⟩ := h.get i d e; exact ⟨v, e', r.mono o x⟩⟩
theorem RelS.set {W : Wl} {σd : SD} {σ : St} {d : D} {v : V} (h : RelS W σd σ) (i : Nat) (r : RelD W d v) : RelS W (σd.set i (some d)) (σ.set i (some v)) := by
  refine ⟨by simpa using h.len, fun j e q => ?_⟩
  by_cases z : i = j
  · subst z
    by_cases hi : i < σd.length
    · rw [List.getElem?_set_self hi] at q; cases q
      exact ⟨v, List.getElem?_set_self (by rw [← h.len]; exact hi), r⟩
    · rw [List.getElem?_eq_none (by simpa using Nat.le_of_not_lt hi)] at q; cases q
  · rw [List.getElem?_set_ne z] at q
    obtain ⟨v', e', r'⟩ := h.get j e q
    exact ⟨v', by rw [List.getElem?_set_ne z]; exact e', r'⟩
/-- the frame of values forgotten at a slot -/
theorem RelS.none_at {W : Wl} {σd : SD} {σ : St} (h : RelS W σd σ) (i : Nat) (x : Option V) : RelS W (σd.set i none) (σ.set i x) := by
  refine ⟨by simpa using h.len, fun j e q => ?_⟩
  by_cases z : i = j
  · subst z
    by_cases hi : i < σd.length
    · rw [List.getElem?_set_self hi] at q; cases q
    · rw [List.getElem?_eq_none (by simpa using Nat.le_of_not_lt hi)] at q; cases q
  · rw [List.getElem?_set_ne z] at q
    obtain ⟨v', e', r'⟩ := h.get j e q
    exact ⟨v', by rw [List.getElem?_set_ne z]; exact e', r'⟩

section
variable (K : PySem.W.Frag) (N : Nm) (E : XK)
/-- what is wanted behind: of a value, of an exception -/
def Vk (W : Wl) (kv : KV) (Q : VK) : Prop := ∀ W' d v, Ext W W' → W'.Ok K N.toNames → RelD W' d v → kv d W'.η = true → Q v W'.H
def Xk (W : Wl) (kx : KX) : Prop := ∀ W' x cls dd, Ext W W' → W'.Ok K N.toNames → RelX N W' x cls dd → kx x W'.η = true → E cls dd W'.H
def tE (c : CE) : TE := fun σ H Q => ∃ W σd kv kx, W.H = H ∧ W.Ok K N.toNames ∧ RelS W σd σ ∧ c σd W.η kv kx = true ∧ Vk K N W kv Q ∧ Xk K N E W kx
def tT (c : CT) : TT := fun σ H Q => ∃ W σd kv kx, W.H = H ∧ W.Ok K N.toNames ∧ RelS W σd σ ∧ c σd W.η kv kx = true ∧ (∀ W' b, Ext W W' → W'.Ok K N.toNames → kv b W'.η = true → Q b W'.H) ∧ Xk K N E W kx
def tAr (c : CA) : TA := fun σ H Q => ∃ W σd kv kx, W.H = H ∧ W.Ok K N.toNames ∧ RelS W σd σ ∧ c σd W.η kv kx = true ∧ (∀ W' ds vs, Ext W W' → W'.Ok K N.toNames → RelDs W' ds vs → kv ds W'.η = true → Q vs W'.H) ∧ Xk K N E W kx
/-- what is wanted behind a statement -/
structure Sk (W : Wl) (k : KS) (Z : Ends) : Prop where
  nx : ∀ W' σd σ, Ext W W' → W'.Ok K N.toNames → RelS W' σd σ → k.nx σd W'.η = true → Z.nx σ W'.H
  rt : Vk K N W k.rt Z.rt
  bk : ∀ W' σd σ, Ext W W' → W'.Ok K N.toNames → RelS W' σd σ → k.bk σd W'.η = true → Z.bk σ W'.H
  ct : ∀ W' σd σ, Ext W W' → W'.Ok K N.toNames → RelS W' σd σ → k.ct σd W'.η = true → Z.ct σ W'.H
  xc : Xk K N E W k.xc
def tS (c : CS) : TS := fun Z σ H => ∃ W σd k, W.H = H ∧ W.Ok K N.toNames ∧ RelS W σd σ ∧ c σd W.η k = true ∧ Sk K N E W k Z
end
def JE (X : Cx) (N : Nm) (E : XK) (e : Expr) (c : CE) : Prop := PE X e (tE X.K N E c)
def JT (X : Cx) (N : Nm) (E : XK) (e : Expr) (c : CT) : Prop := PT X e (tT X.K N E c)
def JA (X : Cx) (N : Nm) (E : XK) (es : List Expr) (c : CA) : Prop := PA X es (tAr X.K N E c)
def JS (X : Cx) (N : Nm) (E : XK) (st : Stmt) (c : CS) : Prop := PS X st (tS X.K N E c)
def JB (X : Cx) (N : Nm) (E : XK) (st : List Stmt) (c : CS) : Prop := PSs X st (tS X.K N E c)

theorem PE.imp {X : Cx} {e : Expr} {t t' : TE} (h : PE X e t) (f : ∀ σ H Q, t' σ H Q → t σ H Q) : PE X e t' := ⟨fun pins s σ H Q I q => h.run pins s σ H Q I (f σ H Q q)⟩
theorem PT.imp {X : Cx} {e : Expr} {t t' : TT} (h : PT X e t) (f : ∀ σ H Q, t' σ H Q → t σ H Q) : PT X e t' := ⟨fun pins s σ H Q I q => h.run pins s σ H Q I (f σ H Q q)⟩
theorem PW.imp {X : Cx} {e : Expr} {t t' : TT} (h : PW X e t) (f : ∀ σ H Q, t' σ H Q → t σ H Q) : PW X e t' := ⟨fun wh pins s σ H Q I q => h.run wh pins s σ H Q I (f σ H Q q)⟩
theorem PA.imp {X : Cx} {e : List Expr} {t t' : TA} (h : PA X e t) (f : ∀ σ H Q, t' σ H Q → t σ H Q) : PA X e t' := ⟨fun pos pins s σ H Q I q => h.run pos pins s σ H Q I (f σ H Q q)⟩
theorem PS.imp {X : Cx} {e : Stmt} {t t' : TS} (h : PS X e t) (f : ∀ D σ H, t' D σ H → t D σ H) : PS X e t' := ⟨fun pins s σ H D I q => h.run pins s σ H D I (f D σ H q)⟩
theorem PSs.imp {X : Cx} {e : List Stmt} {t t' : TS} (h : PSs X e t) (f : ∀ D σ H, t' D σ H → t D σ H) : PSs X e t' := ⟨fun pins s σ H D I q => h.run pins s σ H D I (f D σ H q)⟩

section
variable {K : PySem.W.Frag} {N : Nm} {E : XK} {W W' : Wl} {kv : KV} {kx : KX} {Q : VK}
theorem Vk.mono (o : W.Ok K N.toNames) (o' : W'.Ok K N.toNames) (x : Ext W W') (h : Vk K N W kv Q) : Vk K N W' kv Q := fun W2 d v y => h W2 d v (x.trans o o' y)
theorem Xk.mono (o : W.Ok K N.toNames) (o' : W'.Ok K N.toNames) (x : Ext W W') (h : Xk K N E W kx) : Xk K N E W' kx := fun W2 d v dd y => h W2 d v dd (x.trans o o' y)
theorem Vk.here (o : W.Ok K N.toNames) (h : Vk K N W kv Q) {d : D} {v : V} (r : RelD W d v) (e : kv d W.η = true) : Q v W.H := h W d v (Ext.refl W) o r e
theorem Sk.mono {k : KS} {Z : Ends} (o : W.Ok K N.toNames) (o' : W'.Ok K N.toNames) (x : Ext W W') (h : Sk K N E W k Z) : Sk K N E W' k Z :=
  ⟨fun W2 a b y => h.nx W2 a b (x.trans o o' y), h.rt.mono o o' x, fun W2 a b y => h.bk W2 a b (x.trans o o' y), fun W2 a b y => h.ct W2 a b (x.trans o o' y), h.xc.mono o o' x⟩
/-- a part is read, then the rest -/
theorem tE.bind {c : CE} {σ : St} {σd : SD} {Q' : VK} (o : W.Ok K N.toNames) (s : RelS W σd σ) (hx : Xk K N E W kx) (h : c σd W.η kv kx = true)
    (hq : ∀ W' d v, Ext W W' → W'.Ok K N.toNames → RelD W' d v → RelS W' σd σ → Xk K N E W' kx → kv d W'.η = true → Q' v W'.H) : tE K N E c σ W.H Q' :=
  ⟨W, σd, kv, kx, rfl, o, s, h, fun W' d v x o' r e => hq W' d v x o' r (s.mono o x) (hx.mono o o' x) e, hx⟩
theorem tT.bind {c : CT} {kt : Bool → Hd → Bool} {σ : St} {σd : SD} {Q' : Bool → Hp → Prop} (o : W.Ok K N.toNames) (s : RelS W σd σ) (hx : Xk K N E W kx) (h : c σd W.η kt kx = true)
    (hq : ∀ W' b, Ext W W' → W'.Ok K N.toNames → RelS W' σd σ → Xk K N E W' kx → kt b W'.η = true → Q' b W'.H) : tT K N E c σ W.H Q' :=
  ⟨W, σd, kt, kx, rfl, o, s, h, fun W' b x o' e => hq W' b x o' (s.mono o x) (hx.mono o o' x) e, hx⟩
theorem tAr.bind {c : CA} {kt : List D → Hd → Bool} {σ : St} {σd : SD} {Q' : List V → Hp → Prop} (o : W.Ok K N.toNames) (s : RelS W σd σ) (hx : Xk K N E W kx) (h : c σd W.η kt kx = true)
    (hq : ∀ W' ds vs, Ext W W' → W'.Ok K N.toNames → RelDs W' ds vs → RelS W' σd σ → Xk K N E W' kx → kt ds W'.η = true → Q' vs W'.H) : tAr K N E c σ W.H Q' :=
  ⟨W, σd, kt, kx, rfl, o, s, h, fun W' ds vs x o' r e => hq W' ds vs x o' r (s.mono o x) (hx.mono o o' x) e, hx⟩
end

/-! ### names, constants -/
def cVar (i : Nat) : CE := fun σ η kv _ => match σ[i]? with
  | some (some d) => kv d η
  | _ => false
def cC (d : D) : CE := fun _ η kv _ => kv d η
section
variable {X : Cx} {N : Nm} {E : XK}
theorem je_var {e : Expr} (i : Nat) (h : PE X e (tVar i)) : JE X N E e (cVar i) := PE.imp h fun σ H Q q => by
  obtain ⟨W, σd, kv, kx, rfl, o, s, h, hv, hx⟩ := q
  unfold cVar at h
  cases e : σd[i]? with
  | none => rw [e] at h; cases h
  | some x =>
    cases x with
    | none => rw [e] at h; cases h
    | some d =>
      rw [e] at h
      obtain ⟨v, e', r⟩ := s.get i d e
      exact ⟨v, e', hv.here o r h⟩
theorem je_c {e : Expr} {v : V} {d : D} (h : PE X e (tC v)) (r : ∀ W, RelD W d v) : JE X N E e (cC d) := PE.imp h fun σ H Q q => by
  obtain ⟨W, σd, kv, kx, rfl, o, s, h, hv, hx⟩ := q
  exact hv.here o (r W) h
theorem je_int {i : Int} {j pos} : JE X N E (.Constant (.int i) j pos) (cC (.int i)) := je_c pe_int fun W => by rw [RelD]
theorem je_bl {b : Bool} {j pos} : JE X N E (.Constant (.bool b) j pos) (cC (.bl b)) := je_c pe_bl fun W => by rw [RelD]
theorem je_non {j pos} : JE X N E (.Constant .none j pos) (cC .non) := je_c pe_non fun W => by rw [RelD]
theorem je_str {x : Str} {j pos} : JE X N E (.Constant (.str x) j pos) (cC (.str x)) := je_c pe_str fun W => by rw [RelD]

/-! ### operators by values -/
/-- what an operator makes of two values; none: nothing is said -/
abbrev F2 := D → D → Hd → Option (D × Hd)
def r2 (K : PySem.W.Frag) (N : Nm) (f : F2) : R2 := fun x y H Q => ∃ W dx dy d η', W.H = H ∧ W.Ok K N.toNames ∧ RelD W dx x ∧ RelD W dy y ∧ f dx dy W.η = some (d, η') ∧
  (∀ W' v, Ext W W' → W'.Ok K N.toNames → W'.η = η' → RelD W' d v → Q v W'.H)
def cOp (f : F2) (a b : CE) : CE := fun σ η kv kx => a σ η (fun x η1 => b σ η1 (fun y η2 => match f x y η2 with
  | some (d, η3) => kv d η3
  | none => false) kx) kx
theorem tOp_of {f : F2} {ca cb : CE} {K : PySem.W.Frag} {σ : St} {H : Hp} {Q : VK} (h : tE K N E (cOp f ca cb) σ H Q) : tOp (r2 K N f) (tE K N E ca) (tE K N E cb) σ H Q := by
  obtain ⟨W, σd, kv, kx, rfl, o, s, h, hv, hx⟩ := h
  refine tE.bind o s hx h fun W1 dx x x1 o1 r1 s1 hx1 h1 => ?_
  refine tE.bind o1 s1 hx1 h1 fun W2 dy y x2 o2 r2' s2 hx2 h2 => ?_
  cases e : f dx dy W2.η with
  | none => rw [e] at h2; cases h2
  | some p =>
    obtain ⟨d, η'⟩ := p
    rw [e] at h2
    exact ⟨W2, dx, dy, d, η', rfl, o2, r1.mono o1 x2, r2', e, fun W' v x3 o3 e3 r3 => hv W' d v (x1.trans o o1 (x2.trans o1 o2 x3)) o3 r3 (by rw [e3]; exact h2)⟩
theorem je_op {op : Operator} {f : F2} {a b : Expr} {ca cb : CE} {pos : Pos} (ho : OpR X (binaryOp op) (r2 X.K N f)) (ha : JE X N E a ca) (hb : JE X N E b cb) : JE X N E (.BinOp a op b pos) (cOp f ca cb) :=
  PE.imp (pe_op ho ha hb) fun σ H Q q => tOp_of q
theorem je_cmp {op : CmpOp} {f : F2} {a b : Expr} {ca cb : CE} {pos : Pos} (ho : OpR X (compareOp op) (r2 X.K N f)) (ha : JE X N E a ca) (hb : JE X N E b cb) (hm : behindInMarks op b = false) : JE X N E (.Compare a [op] [b] pos) (cOp f ca cb) :=
  PE.imp (pe_cmpR ho ha hb hm) fun σ H Q q => tOp_of q
end
end DL

/-! operators -/
namespace DL
open PySem PySem.Spec L2
section
variable {X : Cx} {N : Nm} {E : XK}
theorem OpR.imp {f : Value → Value → Sem Value} {r r' : R2} (h : OpR X f r) (i : ∀ x y H Q, r' x y H Q → r x y H Q) : OpR X f r' :=
  fun pins s σ H x y v u Q I rx ry q => h pins s σ H x y v u Q I rx ry (i x y H Q q)
/-- the world is as it was -/
theorem same_w {K : PySem.W.Frag} {W : Wl} {Q : VK} {d : D} {v : V} (o : W.Ok K N.toNames) (q : ∀ W' v, Ext W W' → W'.Ok K N.toNames → W'.η = W.η → RelD W' d v → Q v W'.H) (r : RelD W d v) : Q v W.H := q W v (Ext.refl W) o rfl r

def line : Nat := 16777216
theorem line_eq : line = sizeLine := rfl

/-! ints -/
def fI2 (g : Int → Int → Int) : F2 := fun x y η => match x, y with
  | .int i, .int j => some (.int (g i j), η)
  | _, _ => none
def fI2c (c : Int → Int → Bool) (g : Int → Int → Int) : F2 := fun x y η => match x, y with
  | .int i, .int j => match c i j with
    | true => some (.int (g i j), η)
    | false => none
  | _, _ => none
def fB2 (g : Int → Int → Bool) : F2 := fun x y η => match x, y with
  | .int i, .int j => some (.bl (g i j), η)
  | _, _ => none
theorem relInt {W : Wl} {i : Int} {v : V} (h : RelD W (.int i) v) : v = .int i := by rw [RelD] at h; exact h
theorem relStr {W : Wl} {i : Str} {v : V} (h : RelD W (.str i) v) : v = .str i := by rw [RelD] at h; exact h
theorem relBl {W : Wl} {i : Bool} {v : V} (h : RelD W (.bl i) v) : v = .bl i := by rw [RelD] at h; exact h
theorem relNon {W : Wl} {v : V} (h : RelD W .non v) : v = .non := by rw [RelD] at h; exact h
theorem relRef {W : Wl} {r : Nat} {v : V} (h : RelD W (.ref r) v) : v = .ref (W.μ r) := by rw [RelD] at h; exact h.2
theorem mkInt {W : Wl} {i : Int} : RelD W (.int i) (.int i) := by rw [RelD]
theorem mkBl {W : Wl} {i : Bool} : RelD W (.bl i) (.bl i) := by rw [RelD]
theorem mkStr' {W : Wl} {i : Str} : RelD W (.str i) (.str i) := by rw [RelD]
theorem mkNon {W : Wl} : RelD W .non .non := by rw [RelD]
theorem fI2_inv {g : Int → Int → Int} {x y d : D} {η η' : Hd} (h : fI2 g x y η = some (d, η')) : ∃ i j, x = .int i ∧ y = .int j ∧ d = .int (g i j) ∧ η' = η := by
  cases x with
  | int i =>
    cases y with
    | int j => simp only [fI2, Option.some.injEq, Prod.mk.injEq] at h; exact ⟨i, j, rfl, rfl, h.1.symm, h.2.symm⟩
    | _ => cases h
  | _ => cases h
theorem fB2_inv {g : Int → Int → Bool} {x y d : D} {η η' : Hd} (h : fB2 g x y η = some (d, η')) : ∃ i j, x = .int i ∧ y = .int j ∧ d = .bl (g i j) ∧ η' = η := by
  cases x with
  | int i =>
    cases y with
    | int j => simp only [fB2, Option.some.injEq, Prod.mk.injEq] at h; exact ⟨i, j, rfl, rfl, h.1.symm, h.2.symm⟩
    | _ => cases h
  | _ => cases h
theorem fI2c_inv {c : Int → Int → Bool} {g : Int → Int → Int} {x y d : D} {η η' : Hd} (h : fI2c c g x y η = some (d, η')) : ∃ i j, x = .int i ∧ y = .int j ∧ c i j = true ∧ d = .int (g i j) ∧ η' = η := by
  cases x with
  | int i =>
    cases y with
    | int j =>
      simp only [fI2c] at h
      cases e : c i j with
      | false => rw [e] at h; cases h
      | true => rw [e] at h; simp only [Option.some.injEq, Prod.mk.injEq] at h; exact ⟨i, j, rfl, rfl, e, h.1.symm, h.2.symm⟩
    | _ => cases h
  | _ => cases h
theorem opd_int {f : Value → Value → Sem Value} {g g' : Int → Int → Int} (h : OpR X f (rI0 fun i j => .int (g' i j))) (e : ∀ i j, g' i j = g i j) : OpR X f (r2 X.K N (fI2 g)) := OpR.imp h fun x y H Q q => by
  obtain ⟨W, dx, dy, d, η', rfl, o, rx, ry, hf, hq⟩ := q
  obtain ⟨i, j, rfl, rfl, rfl, rfl⟩ := fI2_inv hf
  rw [relInt rx, relInt ry]
  exact ⟨i, j, rfl, rfl, by show Q (.int (g' i j)) W.H; rw [e]; exact same_w o hq mkInt⟩
theorem opd_intc {f : Value → Value → Sem Value} {C : Int → Int → Prop} {c : Int → Int → Bool} {g g' : Int → Int → Int} (h : OpR X f (rI C fun i j => .int (g' i j))) (hc : ∀ i j, c i j = true → C i j) (e : ∀ i j, g' i j = g i j) : OpR X f (r2 X.K N (fI2c c g)) := OpR.imp h fun x y H Q q => by
  obtain ⟨W, dx, dy, d, η', rfl, o, rx, ry, hf, hq⟩ := q
  obtain ⟨i, j, rfl, rfl, hij, rfl, rfl⟩ := fI2c_inv hf
  rw [relInt rx, relInt ry]
  exact ⟨i, j, rfl, rfl, hc i j hij, by show Q (.int (g' i j)) W.H; rw [e]; exact same_w o hq mkInt⟩
theorem opd_cmp {f : Value → Value → Sem Value} {g g' : Int → Int → Bool} (h : OpR X f (rI0 fun i j => .bl (g' i j))) (e : ∀ i j, g' i j = g i j) : OpR X f (r2 X.K N (fB2 g)) := OpR.imp h fun x y H Q q => by
  obtain ⟨W, dx, dy, d, η', rfl, o, rx, ry, hf, hq⟩ := q
  obtain ⟨i, j, rfl, rfl, rfl, rfl⟩ := fB2_inv hf
  rw [relInt rx, relInt ry]
  exact ⟨i, j, rfl, rfl, by show Q (.bl (g' i j)) W.H; rw [e]; exact same_w o hq mkBl⟩

/-- either of two -/
def fOr (f g : F2) : F2 := fun x y η => match f x y η with
  | some p => some p
  | none => g x y η
theorem opd_or {fv : Value → Value → Sem Value} {f g : F2} (hf : OpR X fv (r2 X.K N f)) (hg : OpR X fv (r2 X.K N g)) : OpR X fv (r2 X.K N (fOr f g)) := OpR.imp (OpR.or hf hg) fun x y H Q q => by
  obtain ⟨W, dx, dy, d, η', rfl, o, rx, ry, h, hq⟩ := q
  unfold fOr at h
  cases e : f dx dy W.η with
  | some p => rw [e] at h; exact .inl ⟨W, dx, dy, d, η', rfl, o, rx, ry, by rw [e]; exact h, hq⟩
  | none => rw [e] at h; exact .inr ⟨W, dx, dy, d, η', rfl, o, rx, ry, h, hq⟩

/-! tuples, lists, texts -/
def fCatT : F2 := fun x y η => match x, y with
  | .tup a, .tup b => match Nat.ble (a.length + b.length) line with
    | true => some (.tup (a ++ b), η)
    | false => none
  | _, _ => none
def fCatL : F2 := fun x y η => match x, y with
  | .ref r, .ref s => match η.get r, η.get s with
    | some (.lst a), some (.lst b) => match Nat.ble (a.length + b.length) line with
      | true => some (.ref η.nx, η.new (.lst (a ++ b)))
      | false => none
    | _, _ => none
  | _, _ => none
def fCatS : F2 := fun x y η => match x, y with
  | .str a, .str b => match Nat.ble (a.length + b.length) line with
    | true => some (.str (a ++ b), η)
    | false => none
  | _, _ => none
def fRepL : F2 := fun x y η => match x, y with
  | .ref r, .int k => match η.get r with
    | some (.lst a) => match Nat.ble k.natAbs 100000, Nat.ble (a.length * k.toNat) line with
      | true, true => some (.ref η.nx, η.new (.lst (List.replicate k.toNat a).flatten))
      | _, _ => none
    | _ => none
  | _, _ => none
theorem relTup {W : Wl} {ds : List D} {v : V} (h : RelD W (.tup ds) v) : ∃ a vs, v = .ref a ∧ W.H a = some (.tup vs) ∧ RelDs W ds vs := by rw [RelD] at h; exact h
theorem mkTup {W : Wl} {ds : List D} {a : Addr} {vs : List V} (h : W.H a = some (.tup vs)) (r : RelDs W ds vs) : RelD W (.tup ds) (.ref a) := by rw [RelD]; exact ⟨a, vs, rfl, h, r⟩
/-- a new tuple -/
theorem new_tup {K : PySem.W.Frag} {W : Wl} {Q : VK} {ds : List D} {vs : List V} {p : Addr} (o : W.Ok K N.toNames) (q : ∀ W' v, Ext W W' → W'.Ok K N.toNames → W'.η = W.η → RelD W' (.tup ds) v → Q v W'.H) (hp : W.H p = none) (r : RelDs W ds vs) : Q (.ref p) (upd W.H p (.tup vs)) := by
  obtain ⟨x, o'⟩ := o.lay (ob := .tup vs) hp
  exact q (W.lay p (.tup vs)) (.ref p) x o' rfl (mkTup upd_same (r.mono o x))
/-- a new list -/
theorem new_lst {K : PySem.W.Frag} {W : Wl} {Q : VK} {ds : List D} {vs : List V} {p : Addr} (o : W.Ok K N.toNames) (q : ∀ W' v, Ext W W' → W'.Ok K N.toNames → W'.η = W.η.new (.lst ds) → RelD W' (.ref W.η.nx) v → Q v W'.H) (hp : W.H p = none) (r : RelDs W ds vs) (hl : ds.length ≤ sizeLine) : Q (.ref p) (upd W.H p (.lst vs)) := by
  have y : Ext W (W.lay p (.lst vs)) := (o.lay hp).1
  have pre : RelC K N.toNames (W.new p (.lst ds) (.lst vs)) p (.lst ds) := by
    refine ⟨vs, upd_same, ?_, hl⟩
    -- the world before the cell's own relation
    have x : Ext W (W.new p (.lst ds) (.lst vs)) := by
      refine ⟨Nat.le_succ _, fun r h => ?_, fun a u h _ _ => ?_, fun a u h t => ⟨u, ?_, t⟩, fun r d h => ?_⟩
      · show (if r = W.η.nx then p else W.μ r) = W.μ r
        rw [if_neg (Nat.ne_of_lt h)]
      · show upd W.H p _ a = some u
        rw [upd_ne (ne_of_none h hp)]; exact h
      · show upd W.H p _ a = some u
        rw [upd_ne (ne_of_none h hp)]; exact h
      · have h' : (W.η.new (.lst ds)).get r = some d := h
        rw [Hd.get_new] at h'
        by_cases e : r = W.η.nx
        · refine .inr ⟨Nat.le_of_eq e.symm, ?_⟩
          show NoC W.H (if r = W.η.nx then p else W.μ r)
          rw [if_pos e]; exact NoC.of hp
        · rw [if_neg e] at h'
          exact .inl ⟨d, h', id⟩
    exact r.mono o x
  obtain ⟨x, o'⟩ := o.new hp pre
  exact q (W.new p (.lst ds) (.lst vs)) (.ref p) x o' rfl (Wl.new_ref W p _ _)
theorem opd_catT : OpR X (binaryOp .Add) (r2 X.K N fCatT) := OpR.imp op_catA fun x y H Q q => by
  obtain ⟨W, dx, dy, d, η', rfl, o, rx, ry, hf, hq⟩ := q
  cases dx with
  | tup a =>
    cases dy with
    | tup b =>
      simp only [fCatT] at hf
      cases e : Nat.ble (a.length + b.length) line with
      | false => rw [e] at hf; cases hf
      | true =>
        rw [e] at hf
        simp only [Option.some.injEq, Prod.mk.injEq] at hf
        obtain ⟨rfl, rfl⟩ := hf
        obtain ⟨pa, va, rfl, sa, ra⟩ := relTup rx
        obtain ⟨pb, vb, rfl, sb, rb⟩ := relTup ry
        have hl : va.length + vb.length ≤ sizeLine := by
          rw [← ra.length, ← rb.length]; exact Nat.le_of_ble_eq_true e
        refine ⟨pa, pb, va, vb, rfl, rfl, SqT.of sa, SqT.of sb, hl, fun z => ?_, fun _ z => ?_, fun _ _ p hp => new_tup o hq hp (ra.append rb)⟩
        · subst z
          have ea : a = [] := List.eq_nil_of_length_eq_zero (by rw [ra.length]; rfl)
          subst ea
          exact same_w o hq (mkTup sb rb)
        · subst z
          have eb : b = [] := List.eq_nil_of_length_eq_zero (by rw [rb.length]; rfl)
          subst eb
          rw [List.append_nil] at hq
          exact same_w o hq (mkTup sa ra)
    | _ => cases hf
  | _ => cases hf
/-- what is read as a list -/
def Hd.list (η : Hd) (r : Nat) : Option (List D) := match η.get r with
  | some (.lst l) => some l
  | some (.frz l) => some l
  | _ => none
theorem list_of {K : PySem.W.Frag} {W : Wl} {r : Nat} {l : List D} (o : W.Ok K N.toNames) (h : W.η.list r = some l) : ∃ vs, SqL K W.H (W.μ r) vs ∧ RelDs W l vs ∧ l.length ≤ sizeLine := by
  unfold Hd.list at h
  cases e : W.η.get r with
  | none => rw [e] at h; cases h
  | some c =>
    have q := o.cell r c e
    rw [e] at h
    cases c with
    | lst l' => cases h; obtain ⟨vs, h1, h2, h3⟩ := q; exact ⟨vs, .inl (.inl h1), h2, h3⟩
    | frz l' => cases h; obtain ⟨vs, h1, h2, h3⟩ := q; exact ⟨vs, .inl (.inl h1), h2, h3⟩
    | _ => cases h
theorem opd_catL : OpR X (binaryOp .Add) (r2 X.K N fCatL) := OpR.imp op_cat fun x y H Q q => by
  obtain ⟨W, dx, dy, d, η', rfl, o, rx, ry, hf, hq⟩ := q
  cases dx with
  | ref r =>
    cases dy with
    | ref s =>
      simp only [fCatL] at hf
      cases e1 : W.η.get r with
      | none => rw [e1] at hf; cases hf
      | some c1 =>
        cases e2 : W.η.get s with
        | none => rw [e1, e2] at hf; cases c1 <;> cases hf
        | some c2 =>
          rw [e1, e2] at hf
          cases c1 with
          | lst a =>
            cases c2 with
            | lst b =>
              simp only at hf
              cases e : Nat.ble (a.length + b.length) line with
              | false => rw [e] at hf; cases hf
              | true =>
                rw [e] at hf
                simp only [Option.some.injEq, Prod.mk.injEq] at hf
                obtain ⟨rfl, rfl⟩ := hf
                obtain ⟨va, ha, ra, _⟩ := o.cell r _ e1
                obtain ⟨vb, hb, rb, _⟩ := o.cell s _ e2
                have hl : a.length + b.length ≤ sizeLine := Nat.le_of_ble_eq_true e
                rw [relRef rx, relRef ry]
                exact ⟨_, _, va, vb, rfl, rfl, ha, hb, by rw [← ra.length, ← rb.length]; exact hl, fun p hp => new_lst o hq hp (ra.append rb) (by rw [List.length_append]; exact hl)⟩
            | _ => cases hf
          | _ => cases hf
    | _ => cases hf
  | _ => cases hf
theorem opd_catS : OpR X (binaryOp .Add) (r2 X.K N fCatS) := OpR.imp op_add_str fun x y H Q q => by
  obtain ⟨W, dx, dy, d, η', rfl, o, rx, ry, hf, hq⟩ := q
  cases dx with
  | str a =>
    cases dy with
    | str b =>
      simp only [fCatS] at hf
      cases e : Nat.ble (a.length + b.length) line with
      | false => rw [e] at hf; cases hf
      | true =>
        rw [e] at hf
        simp only [Option.some.injEq, Prod.mk.injEq] at hf
        obtain ⟨rfl, rfl⟩ := hf
        rw [relStr rx, relStr ry]
        exact ⟨a, b, rfl, rfl, Nat.le_of_ble_eq_true e, same_w o hq mkStr'⟩
    | _ => cases hf
  | _ => cases hf
theorem RelDs.rep {W : Wl} {ds : List D} {vs : List V} (h : RelDs W ds vs) : ∀ n : Nat, RelDs W (List.replicate n ds).flatten (List.replicate n vs).flatten
  | 0 => .nil
  | n + 1 => by
    rw [List.replicate_succ, List.replicate_succ, List.flatten_cons, List.flatten_cons]
    exact h.append (RelDs.rep h n)
theorem len_rep (a : List D) : ∀ n : Nat, (List.replicate n a).flatten.length = n * a.length
  | 0 => by simp
  | n + 1 => by rw [List.replicate_succ, List.flatten_cons, List.length_append, len_rep a n, Nat.succ_mul, Nat.add_comm]
theorem opd_repL : OpR X (binaryOp .Mult) (r2 X.K N fRepL) := OpR.imp op_rep fun x y H Q q => by
  obtain ⟨W, dx, dy, d, η', rfl, o, rx, ry, hf, hq⟩ := q
  cases dx with
  | ref r =>
    cases dy with
    | int k =>
      simp only [fRepL] at hf
      cases e1 : W.η.get r with
      | none => rw [e1] at hf; cases hf
      | some c1 =>
        rw [e1] at hf
        cases c1 with
        | lst a =>
          simp only at hf
          cases e : Nat.ble k.natAbs 100000 with
          | false => rw [e] at hf; cases hf
          | true =>
            cases e' : Nat.ble (a.length * k.toNat) line with
            | false => rw [e, e'] at hf; cases hf
            | true =>
              rw [e, e'] at hf
              simp only [Option.some.injEq, Prod.mk.injEq] at hf
              obtain ⟨rfl, rfl⟩ := hf
              obtain ⟨va, ha, ra, _⟩ := o.cell r _ e1
              have hk : k.natAbs ≤ 100000 := Nat.le_of_ble_eq_true e
              have hl : a.length * k.toNat ≤ sizeLine := Nat.le_of_ble_eq_true e'
              rw [relRef rx, relInt ry]
              refine ⟨_, k, va, rfl, rfl, ha, by omega, by omega, by rw [← ra.length]; exact hl, fun p hp => new_lst o hq hp (ra.rep _) ?_⟩
              rw [len_rep, Nat.mul_comm]; exact hl
        | _ => cases hf
    | _ => cases hf
  | _ => cases hf

def iadd (i j : Int) : Int := i + j
def fAdd : F2 := fOr (fI2 iadd) (fOr fCatT (fOr fCatL fCatS))
theorem opd_add : OpR X (binaryOp .Add) (r2 X.K N fAdd) := opd_or (opd_int op_add fun _ _ => rfl) (opd_or opd_catT (opd_or opd_catL opd_catS))
def isub (i j : Int) : Int := i - j
def fSub : F2 := fI2 isub
theorem opd_sub : OpR X (binaryOp .Sub) (r2 X.K N fSub) := opd_int op_sub fun _ _ => rfl
def imul (i j : Int) : Int := i * j
def mulOk (i j : Int) : Bool := Nat.ble i.natAbs 1000000000000000000 || Nat.ble j.natAbs 1000000000000000000
theorem mulOk_ok (i j : Int) (h : mulOk i j = true) : CMul i j := by
  unfold mulOk at h
  rcases Bool.or_eq_true_iff.mp h with h | h
  · have := Nat.le_of_ble_eq_true h; exact .inl ⟨by omega, by omega⟩
  · have := Nat.le_of_ble_eq_true h; exact .inr ⟨by omega, by omega⟩
def fMul : F2 := fOr (fI2c mulOk imul) fRepL
theorem opd_mul : OpR X (binaryOp .Mult) (r2 X.K N fMul) := opd_or (opd_intc op_mul mulOk_ok fun _ _ => rfl) opd_repL
def idiv (i j : Int) : Int := i / j
def divOk (i j : Int) : Bool := match j with
  | .ofNat (n + 1) => Nat.ble n 1000000000
  | _ => false
theorem divOk_ok (i j : Int) (h : divOk i j = true) : CDiv i j := by
  unfold divOk at h
  split at h
  · rename_i n
    have := Nat.le_of_ble_eq_true h
    exact ⟨by show (0 : Int) < ((n + 1 : Nat) : Int); omega, by show ((n + 1 : Nat) : Int) < _; omega⟩
  · cases h
def fDiv : F2 := fI2c divOk idiv
theorem opd_div : OpR X (binaryOp .FloorDiv) (r2 X.K N fDiv) := opd_intc op_fdiv divOk_ok fun _ _ => rfl
def imod (i j : Int) : Int := i % j
def modOk (i j : Int) : Bool := match j with
  | .ofNat (_ + 1) => true
  | _ => false
theorem modOk_ok (i j : Int) (h : modOk i j = true) : 0 < j := by
  unfold modOk at h
  split at h
  · rename_i n; show (0 : Int) < ((n + 1 : Nat) : Int); omega
  · cases h
def fMod : F2 := fI2c modOk imod
theorem opd_mod : OpR X (binaryOp .Mod) (r2 X.K N fMod) := opd_intc op_mod modOk_ok fun _ _ => rfl
def ilt (i j : Int) : Bool := decide (i < j)
def ile (i j : Int) : Bool := decide (i ≤ j)
def igt (i j : Int) : Bool := decide (j < i)
def ige (i j : Int) : Bool := decide (j ≤ i)
theorem opd_lt : OpR X (compareOp .Lt) (r2 X.K N (fB2 ilt)) := opd_cmp op_lt fun _ _ => rfl
theorem opd_le : OpR X (compareOp .LtE) (r2 X.K N (fB2 ile)) := opd_cmp op_le fun _ _ => rfl
theorem opd_gt : OpR X (compareOp .Gt) (r2 X.K N (fB2 igt)) := opd_cmp op_gt fun _ _ => rfl
theorem opd_ge : OpR X (compareOp .GtE) (r2 X.K N (fB2 ige)) := opd_cmp op_ge fun _ _ => rfl
end
end DL

/-! ==, in -/
namespace DL
open PySem PySem.Spec L2

mutual
def toPy : D → PyData
  | .non => .none
  | .bl b => .bool b
  | .int i => .int i
  | .str x => .str x
  | .tup l => .tuple (toPys l)
  | .ref _ => .none
def toPys : List D → List PyData
  | [] => []
  | d :: ds => toPy d :: toPys ds
end
/-- data without a cell, not deeper than n -/
def pur : Nat → D → Bool
  | _, .non => true
  | _, .bl _ => true
  | _, .int _ => true
  | _, .str x => PyData.strOk x
  | n + 1, .tup l => l.all (pur n)
  | _, _ => false
def purs (n : Nat) (l : List D) : Bool := l.all (pur n)
def ieq : Int → Int → Bool
  | .ofNat a, .ofNat b => Nat.beq a b
  | .negSucc a, .negSucc b => Nat.beq a b
  | _, _ => false
theorem ieq_eq (i j : Int) : ieq i j = (i == j) := by
  cases i with
  | ofNat a =>
    cases j with
    | ofNat b =>
      show Nat.beq a b = _
      by_cases h : a = b
      · subst h; simp
      · have h' : ¬ ((Int.ofNat a) = (Int.ofNat b)) := fun z => h (Int.ofNat.inj z)
        rw [beq_eq_false_iff_ne.mpr h']
        cases e : Nat.beq a b with
        | false => rfl
        | true => exact absurd (Nat.eq_of_beq_eq_true e) h
    | negSucc b =>
      have h' : ¬ (Int.ofNat a = Int.negSucc b) := by intro z; cases z
      rw [beq_eq_false_iff_ne.mpr h']; rfl
  | negSucc a =>
    cases j with
    | ofNat b =>
      have h' : ¬ (Int.negSucc a = Int.ofNat b) := by intro z; cases z
      rw [beq_eq_false_iff_ne.mpr h']; rfl
    | negSucc b =>
      show Nat.beq a b = _
      by_cases h : a = b
      · subst h; simp
      · have h' : ¬ ((Int.negSucc a) = (Int.negSucc b)) := fun z => h (Int.negSucc.inj z)
        rw [beq_eq_false_iff_ne.mpr h']
        cases e : Nat.beq a b with
        | false => rfl
        | true => exact absurd (Nat.eq_of_beq_eq_true e) h
def eqL (f : D → D → Bool) : List D → List D → Bool
  | [], [] => true
  | x :: xs, y :: ys => match f x y with
    | true => eqL f xs ys
    | false => false
  | _, _ => false
def eqn : Nat → D → D → Bool
  | _, .int i, .int j => ieq i j
  | _, .non, .non => true
  | _, .bl a, .bl b => a == b
  | _, .bl a, .int j => (if a then 1 else 0) == j
  | _, .int i, .bl b => i == (if b then 1 else 0)
  | _, .str x, .str y => x == y
  | n + 1, .tup a, .tup b => eqL (eqn n) a b
  | _, _, _ => false
theorem eqn_py : ∀ (n : Nat) (x y : D), pur n x = true → pur n y = true → eqn n x y = PyData.eqv (toPy x) (toPy y) := by
  intro n
  induction n with
  | zero =>
    intro x y hx hy
    cases x with
    | tup l => cases hx
    | ref r => cases hx
    | non => cases y with
      | tup l => cases hy
      | ref r => cases hy
      | _ => simp [eqn, toPy, PyData.eqv]
    | bl b => cases y with
      | tup l => cases hy
      | ref r => cases hy
      | _ => simp [eqn, toPy, PyData.eqv]
    | int i => cases y with
      | tup l => cases hy
      | ref r => cases hy
      | int j => simp only [eqn, toPy, PyData.eqv]; exact ieq_eq i j
      | _ => simp [eqn, toPy, PyData.eqv]
    | str i => cases y with
      | tup l => cases hy
      | ref r => cases hy
      | _ => simp [eqn, toPy, PyData.eqv]
  | succ n ih =>
    intro x y hx hy
    have all : ∀ (a b : List D), a.all (pur n) = true → b.all (pur n) = true → eqL (eqn n) a b = PyData.eqvAll (toPys a) (toPys b) := by
      intro a
      induction a with
      | nil => intro b _ _; cases b <;> simp [eqL, toPys, PyData.eqvAll]
      | cons u us ihu =>
        intro b ha hb
        cases b with
        | nil => simp [eqL, toPys, PyData.eqvAll]
        | cons v vs =>
          simp only [List.all_cons, Bool.and_eq_true] at ha hb
          simp only [eqL, toPys, PyData.eqvAll]
          rw [← ih u v ha.1 hb.1, ← ihu vs ha.2 hb.2]
          cases eqn n u v <;> rfl
    cases x with
    | ref r => cases hx
    | tup l => cases y with
      | ref r => cases hy
      | tup l' => simp only [eqn, toPy, PyData.eqv]; exact all l l' hx hy
      | _ => simp [eqn, toPy, PyData.eqv]
    | non => cases y with
      | ref r => cases hy
      | _ => simp [eqn, toPy, PyData.eqv]
    | bl b => cases y with
      | ref r => cases hy
      | _ => simp [eqn, toPy, PyData.eqv]
    | int i => cases y with
      | ref r => cases hy
      | int j => simp only [eqn, toPy, PyData.eqv]; exact ieq_eq i j
      | _ => simp [eqn, toPy, PyData.eqv]
    | str i => cases y with
      | ref r => cases hy
      | _ => simp [eqn, toPy, PyData.eqv]
theorem eqL_py (n : Nat) : ∀ (a b : List D), purs n a = true → purs n b = true → eqL (eqn n) a b = PyData.eqvAll (toPys a) (toPys b)
  | [], b, _, _ => by cases b <;> simp [eqL, toPys, PyData.eqvAll]
  | u :: us, [], _, _ => by simp [eqL, toPys, PyData.eqvAll]
  | u :: us, v :: vs, ha, hb => by
    simp only [purs, List.all_cons, Bool.and_eq_true] at ha hb
    simp only [eqL, toPys, PyData.eqvAll]
    rw [← eqn_py n u v ha.1 hb.1, ← eqL_py n us vs ha.2 hb.2]
    cases eqn n u v <;> rfl
/-- pure data is data in the machine -/
theorem pur_dp {K : PySem.W.Frag} {W : Wl} : ∀ (n : Nat) (d : D) (v : V), pur n d = true → RelD W d v → Dp K W.H v (toPy d) ∧ PyData.canLay0 (toPy d) = true ∧ PyData.depth (toPy d) ≤ n := by
  intro n
  induction n with
  | zero =>
    intro d v h r
    cases d with
    | tup l => cases h
    | ref r => cases h
    | non => rw [RelD] at r; subst r; exact ⟨by rw [toPy]; exact .non, by simp [toPy, PyData.canLay0], by simp [toPy, PyData.depth]⟩
    | bl b => rw [RelD] at r; subst r; exact ⟨by rw [toPy]; exact .bl b, by simp [toPy, PyData.canLay0], by simp [toPy, PyData.depth]⟩
    | int b => rw [RelD] at r; subst r; exact ⟨by rw [toPy]; exact .int b, by simp [toPy, PyData.canLay0], by simp [toPy, PyData.depth]⟩
    | str b => rw [RelD] at r; subst r; exact ⟨by rw [toPy]; exact .str b, by simpa [toPy, PyData.canLay0, pur] using h, by simp [toPy, PyData.depth]⟩
  | succ n ih =>
    intro d v h r
    cases d with
    | ref r => cases h
    | non => rw [RelD] at r; subst r; exact ⟨by rw [toPy]; exact .non, by simp [toPy, PyData.canLay0], by simp [toPy, PyData.depth]⟩
    | bl b => rw [RelD] at r; subst r; exact ⟨by rw [toPy]; exact .bl b, by simp [toPy, PyData.canLay0], by simp [toPy, PyData.depth]⟩
    | int b => rw [RelD] at r; subst r; exact ⟨by rw [toPy]; exact .int b, by simp [toPy, PyData.canLay0], by simp [toPy, PyData.depth]⟩
    | str b => rw [RelD] at r; subst r; exact ⟨by rw [toPy]; exact .str b, by simpa [toPy, PyData.canLay0, pur] using h, by simp [toPy, PyData.depth]⟩
    | tup l =>
      obtain ⟨a, vs, rfl, hs, rs⟩ := relTup r
      have all : ∀ (l : List D) (vs : List V), l.all (pur n) = true → RelDs W l vs → DpAll K W.H vs (toPys l) ∧ PyData.canLayAll0 (toPys l) = true ∧ PyData.depthAll (toPys l) ≤ n := by
        intro l
        induction l with
        | nil => intro vs _ r; rw [RelDs] at r; subst r; exact ⟨by rw [toPys]; exact .nil, by simp [toPys, PyData.canLayAll0], by simp [toPys, PyData.depthAll]⟩
        | cons x xs ihx =>
          intro vs h r
          rw [RelDs] at r
          obtain ⟨v, vs', rfl, r1, r2⟩ := r
          simp only [List.all_cons, Bool.and_eq_true] at h
          obtain ⟨h1, h2, h3⟩ := ih x v h.1 r1
          obtain ⟨h4, h5, h6⟩ := ihx vs' h.2 r2
          exact ⟨by rw [toPys]; exact .cons h1 h4, by simp [toPys, PyData.canLayAll0, h2, h5], by simp only [toPys, PyData.depthAll]; omega⟩
      obtain ⟨h1, h2, h3⟩ := all l vs h rs
      exact ⟨by rw [toPy]; exact .tup (SqT.of hs) h1, by simpa [toPy, PyData.canLay0] using h2, by simp only [toPy, PyData.depth]; omega⟩
theorem purs_dp {K : PySem.W.Frag} {W : Wl} (n : Nat) : ∀ (l : List D) (vs : List V), purs n l = true → RelDs W l vs → DpAll K W.H vs (toPys l) ∧ PyData.canLayAll0 (toPys l) = true ∧ PyData.depthAll (toPys l) ≤ n
  | [], vs, _, r => by rw [RelDs] at r; subst r; exact ⟨by rw [toPys]; exact .nil, by simp [toPys, PyData.canLayAll0], by simp [toPys, PyData.depthAll]⟩
  | x :: xs, vs, h, r => by
    rw [RelDs] at r
    obtain ⟨v, vs', rfl, r1, r2⟩ := r
    simp only [purs, List.all_cons, Bool.and_eq_true] at h
    obtain ⟨h1, h2, h3⟩ := pur_dp (K := K) n x v h.1 r1
    obtain ⟨h4, h5, h6⟩ := purs_dp n xs vs' h.2 r2
    exact ⟨by rw [toPys]; exact .cons h1 h4, by simp [toPys, PyData.canLayAll0, h2, h5], by simp only [toPys, PyData.depthAll]; omega⟩
theorem shaped_of {d : PyData} (h : d.canLay0 = true) (h2 : d.depth ≤ 64) : SeqAt.shaped d = true := by simp [SeqAt.shaped, h, h2]

/-- what two values' == tells -/
def eqF (η : Hd) : D → D → Option Bool
  | .ref r, .ref s => match η.list r, η.list s with
    | some a, some b => match purs 8 a, purs 8 b with
      | true, true => some (eqL (eqn 8) a b)
      | _, _ => none
    | _, _ => none
  | .ref r, y => match η.list r with
    | some a => match purs 8 a, pur 8 y with
      | true, true => some false
      | _, _ => none
    | _ => none
  | x, .ref r => match η.list r with
    | some a => match purs 8 a, pur 8 x with
      | true, true => some false
      | _, _ => none
    | _ => none
  | x, y => match pur 8 x, pur 8 y with
    | true, true => some (eqn 8 x y)
    | _, _ => none
/-- data of a value: pure, or a list of pure ones -/
def pyOf (η : Hd) : D → Option PyData
  | .ref r => match η.list r with
    | some a => match purs 8 a with
      | true => some (.list (toPys a))
      | false => none
    | none => none
  | x => match pur 8 x with
    | true => some (toPy x)
    | false => none
section
variable {X : Cx} {N : Nm} {E : XK} {K : PySem.W.Frag} {W : Wl}
theorem pyOf_dp (o : W.Ok K N.toNames) {d : D} {v : V} {p : PyData} (r : RelD W d v) (h : pyOf W.η d = some p) : Dp K W.H v p ∧ SeqAt.shaped p = true := by
  have flat : ∀ {d : D}, RelD W d v → pur 8 d = true → some (toPy d) = some p → Dp K W.H v p ∧ SeqAt.shaped p = true := fun {d} r hh e => by
    cases e
    obtain ⟨h1, h2, h3⟩ := pur_dp (K := K) 8 d v hh r
    exact ⟨h1, shaped_of h2 (by omega)⟩
  cases d with
  | ref q =>
    simp only [pyOf] at h
    cases e : W.η.list q with
    | none => rw [e] at h; cases h
    | some a =>
      rw [e] at h
      simp only at h
      cases e2 : purs 8 a with
      | false => rw [e2] at h; cases h
      | true =>
        rw [e2] at h
        cases h
        obtain ⟨vs, h1, h2, h3⟩ := list_of o e
        obtain ⟨g1, g2, g3⟩ := purs_dp (K := K) 8 a vs e2 h2
        rw [relRef r]
        refine ⟨.lst h1 g1, shaped_of (by simpa [PyData.canLay0] using g2) (by simp only [PyData.depth]; omega)⟩
  | non => exact flat r rfl h
  | bl b => exact flat r rfl h
  | int b => exact flat r rfl h
  | str b =>
    simp only [pyOf] at h
    cases e : pur 8 (.str b) with
    | false => rw [e] at h; cases h
    | true => rw [e] at h; exact flat r e h
  | tup b =>
    simp only [pyOf] at h
    cases e : pur 8 (.tup b) with
    | false => rw [e] at h; cases h
    | true => rw [e] at h; exact flat r e h
theorem toPy_nolist : ∀ (x : D) (l : List PyData), PyData.eqv (.list l) (toPy x) = false ∧ PyData.eqv (toPy x) (.list l) = false := by
  intro x l
  cases x <;> simp [toPy, PyData.eqv]
theorem eqF_py {η : Hd} {x y : D} {b : Bool} (h : eqF η x y = some b) : ∃ p q, pyOf η x = some p ∧ pyOf η y = some q ∧ PyData.eqv p q = b := by
  have flat : ∀ {x y : D}, (∀ r, x ≠ .ref r) → (∀ r, y ≠ .ref r) → (match pur 8 x, pur 8 y with | true, true => some (eqn 8 x y) | _, _ => none) = some b → ∃ p q, pyOf η x = some p ∧ pyOf η y = some q ∧ PyData.eqv p q = b := by
    intro x y nx ny h
    cases ex : pur 8 x with
    | false => rw [ex] at h; cases h
    | true =>
      cases ey : pur 8 y with
      | false => rw [ex, ey] at h; cases h
      | true =>
        rw [ex, ey] at h
        cases h
        refine ⟨toPy x, toPy y, ?_, ?_, (eqn_py 8 x y ex ey).symm⟩
        · cases x <;> first | exact absurd rfl (nx _) | (simp only [pyOf, ex])
        · cases y <;> first | exact absurd rfl (ny _) | (simp only [pyOf, ey])
  have one : ∀ {r : Nat} {y : D}, (∀ r, y ≠ .ref r) → (match η.list r with | some a => (match purs 8 a, pur 8 y with | true, true => some false | _, _ => none) | _ => none) = some b →
      b = false ∧ ∃ l, pyOf η (.ref r) = some (.list l) ∧ pyOf η y = some (toPy y) := by
    intro r y ny h
    cases e : η.list r with
    | none => rw [e] at h; cases h
    | some a =>
      rw [e] at h
      simp only at h
      cases ex : purs 8 a with
      | false => rw [ex] at h; cases h
      | true =>
        cases ey : pur 8 y with
        | false => rw [ex, ey] at h; cases h
        | true =>
          rw [ex, ey] at h
          cases h
          refine ⟨rfl, toPys a, by simp only [pyOf, e, ex], ?_⟩
          cases y <;> first | exact absurd rfl (ny _) | (simp only [pyOf, ey])
  cases x with
  | ref r =>
    cases y with
    | ref s =>
      simp only [eqF] at h
      cases e1 : η.list r with
      | none => rw [e1] at h; cases h
      | some a =>
        cases e2 : η.list s with
        | none => rw [e1, e2] at h; cases h
        | some c =>
          rw [e1, e2] at h
          simp only at h
          cases ex : purs 8 a with
          | false => rw [ex] at h; cases h
          | true =>
            cases ey : purs 8 c with
            | false => rw [ex, ey] at h; cases h
            | true =>
              rw [ex, ey] at h
              cases h
              refine ⟨.list (toPys a), .list (toPys c), by simp only [pyOf, e1, ex], by simp only [pyOf, e2, ey], ?_⟩
              simp only [PyData.eqv]; exact (eqL_py 8 a c ex ey).symm
    | _ =>
      simp only [eqF] at h
      obtain ⟨rfl, l, h1, h2⟩ := one (by intro r z; cases z) h
      exact ⟨_, _, h1, h2, (toPy_nolist _ l).1⟩
  | non =>
    cases y with
    | ref s =>
      simp only [eqF] at h
      obtain ⟨rfl, l, h1, h2⟩ := one (by intro r z; cases z) h
      exact ⟨_, _, h2, h1, (toPy_nolist _ l).2⟩
    | _ => exact flat (by intro r z; cases z) (by intro r z; cases z) h
  | bl b =>
    cases y with
    | ref s =>
      simp only [eqF] at h
      obtain ⟨rfl, l, h1, h2⟩ := one (by intro r z; cases z) h
      exact ⟨_, _, h2, h1, (toPy_nolist _ l).2⟩
    | _ => exact flat (by intro r z; cases z) (by intro r z; cases z) h
  | int b =>
    cases y with
    | ref s =>
      simp only [eqF] at h
      obtain ⟨rfl, l, h1, h2⟩ := one (by intro r z; cases z) h
      exact ⟨_, _, h2, h1, (toPy_nolist _ l).2⟩
    | _ => exact flat (by intro r z; cases z) (by intro r z; cases z) h
  | str b =>
    cases y with
    | ref s =>
      simp only [eqF] at h
      obtain ⟨rfl, l, h1, h2⟩ := one (by intro r z; cases z) h
      exact ⟨_, _, h2, h1, (toPy_nolist _ l).2⟩
    | _ => exact flat (by intro r z; cases z) (by intro r z; cases z) h
  | tup b =>
    cases y with
    | ref s =>
      simp only [eqF] at h
      obtain ⟨rfl, l, h1, h2⟩ := one (by intro r z; cases z) h
      exact ⟨_, _, h2, h1, (toPy_nolist _ l).2⟩
    | _ => exact flat (by intro r z; cases z) (by intro r z; cases z) h
def fEq : F2 := fun x y η => match eqF η x y with
  | some b => some (.bl b, η)
  | none => none
def fNe : F2 := fun x y η => match eqF η x y with
  | some b => some (.bl (!b), η)
  | none => none
theorem opd_eq (hu : X.A.units + 64 < cLine) : OpR X (compareOp .Eq) (r2 X.K N fEq) := OpR.imp (op_eqD hu) fun x y H Q q => by
  obtain ⟨W, dx, dy, d, η', rfl, o, rx, ry, hf, hq⟩ := q
  unfold fEq at hf
  cases e : eqF W.η dx dy with
  | none => rw [e] at hf; cases hf
  | some b =>
    rw [e] at hf
    simp only [Option.some.injEq, Prod.mk.injEq] at hf
    obtain ⟨rfl, rfl⟩ := hf
    obtain ⟨p, q, h1, h2, rfl⟩ := eqF_py e
    obtain ⟨a1, a2⟩ := pyOf_dp o rx h1
    obtain ⟨b1, b2⟩ := pyOf_dp o ry h2
    exact ⟨p, q, a1, b1, a2, b2, same_w o hq mkBl⟩
theorem opd_ne (hu : X.A.units + 64 < cLine) : OpR X (compareOp .NotEq) (r2 X.K N fNe) := OpR.imp (op_neD hu) fun x y H Q q => by
  obtain ⟨W, dx, dy, d, η', rfl, o, rx, ry, hf, hq⟩ := q
  unfold fNe at hf
  cases e : eqF W.η dx dy with
  | none => rw [e] at hf; cases hf
  | some b =>
    rw [e] at hf
    simp only [Option.some.injEq, Prod.mk.injEq] at hf
    obtain ⟨rfl, rfl⟩ := hf
    obtain ⟨p, q, h1, h2, rfl⟩ := eqF_py e
    obtain ⟨a1, a2⟩ := pyOf_dp o rx h1
    obtain ⟨b1, b2⟩ := pyOf_dp o ry h2
    exact ⟨p, q, a1, b1, a2, b2, same_w o hq mkBl⟩
/-! in: lists and tuples of pure data -/
def seqOf (η : Hd) : D → Option (List D)
  | .ref r => η.list r
  | .tup l => some l
  | _ => none
def inF (η : Hd) (x y : D) : Option Bool := match seqOf η y with
  | some a => match pur 8 x, purs 8 a with
    | true, true => some (a.any fun z => eqn 8 z x)
    | _, _ => none
  | none => none
def fIn : F2 := fun x y η => match inF η x y with
  | some b => some (.bl b, η)
  | none => none
def fNotIn : F2 := fun x y η => match inF η x y with
  | some b => some (.bl (!b), η)
  | none => none
theorem any_py (n : Nat) (x : D) (hx : pur n x = true) : ∀ a : List D, purs n a = true → (a.any fun z => eqn n z x) = ((toPys a).any fun z => PyData.eqv z (toPy x))
  | [], _ => by simp [toPys]
  | u :: us, h => by
    simp only [purs, List.all_cons, Bool.and_eq_true] at h
    simp only [toPys, List.any_cons]
    rw [eqn_py n u x h.1 hx, any_py n x hx us h.2]
/-- x in a list or a tuple, by data -/
def rInA (K : PySem.W.Frag) (neg : Bool) : R2 := fun x y H Q => ∃ d ds, Dp K H x d ∧ (Dp K H y (.list ds) ∨ Dp K H y (.tuple ds)) ∧ SeqAt.shaped d = true ∧ PyData.canLayAll0 ds = true ∧ Q (.bl (if neg then !(ds.any fun z => PyData.eqv z d) else (ds.any fun z => PyData.eqv z d))) H
theorem op_inA (hu : X.A.units + 65 < cLine) : OpR X (compareOp .In) (rInA X.K false) := by
  intro pins s σ H x y v u Q I rx ry h
  obtain ⟨d, ds, hd, he, sd, se, q⟩ := h
  obtain ⟨as, r1⟩ := Dp.reads I d x v hd rx
  rcases he with he | he
  · obtain ⟨bs, r2⟩ := Dp.reads I (.list ds) y u he ry
    exact SeqAt.in_list_reads r2 r1 se (SeqAt.canLay_of_shaped sd) (PyProof.Rows.room_in_shaped sd hu) ⟨.bl _, H, I, rfl, q⟩
  · obtain ⟨bs, r2⟩ := Dp.reads I (.tuple ds) y u he ry
    exact SeqAt.in_tuple_reads r2 r1 se (SeqAt.canLay_of_shaped sd) (PyProof.Rows.room_in_shaped sd hu) ⟨.bl _, H, I, rfl, q⟩
theorem op_notInA (hu : X.A.units + 65 < cLine) : OpR X (compareOp .NotIn) (rInA X.K true) := by
  intro pins s σ H x y v u Q I rx ry h
  obtain ⟨d, ds, hd, he, sd, se, q⟩ := h
  obtain ⟨as, r1⟩ := Dp.reads I d x v hd rx
  rcases he with he | he
  · obtain ⟨bs, r2⟩ := Dp.reads I (.list ds) y u he ry
    exact SeqAt.notIn_list_reads r2 r1 se (SeqAt.canLay_of_shaped sd) (PyProof.Rows.room_in_shaped sd hu) ⟨.bl _, H, I, rfl, q⟩
  · obtain ⟨bs, r2⟩ := Dp.reads I (.tuple ds) y u he ry
    exact SeqAt.notIn_tuple_reads r2 r1 se (SeqAt.canLay_of_shaped sd) (PyProof.Rows.room_in_shaped sd hu) ⟨.bl _, H, I, rfl, q⟩
theorem inF_py (o : W.Ok K N.toNames) {x y : D} {vx vy : V} {b : Bool} (rx : RelD W x vx) (ry : RelD W y vy) (h : inF W.η x y = some b) :
    ∃ d ds, Dp K W.H vx d ∧ (Dp K W.H vy (.list ds) ∨ Dp K W.H vy (.tuple ds)) ∧ SeqAt.shaped d = true ∧ PyData.canLayAll0 ds = true ∧ b = (ds.any fun z => PyData.eqv z d) := by
  unfold inF at h
  cases e : seqOf W.η y with
  | none => rw [e] at h; cases h
  | some a =>
    rw [e] at h
    simp only at h
    cases ex : pur 8 x with
    | false => rw [ex] at h; cases h
    | true =>
      cases ey : purs 8 a with
      | false => rw [ex, ey] at h; cases h
      | true =>
        rw [ex, ey] at h
        cases h
        obtain ⟨h1, h2, h3⟩ := pur_dp (K := K) 8 x vx ex rx
        refine ⟨toPy x, toPys a, h1, ?_, shaped_of h2 (by omega), ?_, any_py 8 x ex a ey⟩
        · cases y with
          | ref r =>
            obtain ⟨vs, g1, g2, g3⟩ := list_of o e
            rw [relRef ry]
            exact .inl (.lst g1 (purs_dp (K := K) 8 a vs ey g2).1)
          | tup l =>
            cases e
            obtain ⟨q, vs, rfl, hs, rs⟩ := relTup ry
            exact .inr (.tup (SqT.of hs) (purs_dp (K := K) 8 _ vs ey rs).1)
          | _ => cases e
        · cases y with
          | ref r =>
            obtain ⟨vs, g1, g2, g3⟩ := list_of o e
            exact (purs_dp (K := K) 8 a vs ey g2).2.1
          | tup l =>
            cases e
            obtain ⟨q, vs, rfl, hs, rs⟩ := relTup ry
            exact (purs_dp (K := K) 8 _ vs ey rs).2.1
          | _ => cases e
theorem opd_in (hu : X.A.units + 65 < cLine) : OpR X (compareOp .In) (r2 X.K N fIn) := OpR.imp (op_inA hu) fun x y H Q q => by
  obtain ⟨W, dx, dy, d, η', rfl, o, rx, ry, hf, hq⟩ := q
  unfold fIn at hf
  cases e : inF W.η dx dy with
  | none => rw [e] at hf; cases hf
  | some b =>
    rw [e] at hf
    simp only [Option.some.injEq, Prod.mk.injEq] at hf
    obtain ⟨rfl, rfl⟩ := hf
    obtain ⟨d, ds, h1, h2, h3, h4, rfl⟩ := inF_py o rx ry e
    exact ⟨d, ds, h1, h2, h3, h4, same_w o hq mkBl⟩
theorem opd_notIn (hu : X.A.units + 65 < cLine) : OpR X (compareOp .NotIn) (r2 X.K N fNotIn) := OpR.imp (op_notInA hu) fun x y H Q q => by
  obtain ⟨W, dx, dy, d, η', rfl, o, rx, ry, hf, hq⟩ := q
  unfold fNotIn at hf
  cases e : inF W.η dx dy with
  | none => rw [e] at hf; cases hf
  | some b =>
    rw [e] at hf
    simp only [Option.some.injEq, Prod.mk.injEq] at hf
    obtain ⟨rfl, rfl⟩ := hf
    obtain ⟨d, ds, h1, h2, h3, h4, rfl⟩ := inF_py o rx ry e
    exact ⟨d, ds, h1, h2, h3, h4, same_w o hq mkBl⟩
end
end DL

/-! expressions -/
namespace DL
open PySem PySem.Spec L2
section
variable {X : Cx} {N : Nm} {E : XK}

/-! ### arguments, displays -/
def cNil : CA := fun _ η k _ => k [] η
def cCons (a : CE) (r : CA) : CA := fun σ η k kx => a σ η (fun x η1 => r σ η1 (fun xs η2 => k (x :: xs) η2) kx) kx
theorem ja_nil : JA X N E [] cNil := PA.imp pa_nil fun σ H Q q => by
  obtain ⟨W, σd, kv, kx, rfl, o, s, h, hv, hx⟩ := q
  exact hv W [] [] (Ext.refl W) o .nil h
theorem ja_cons {e : Expr} {es : List Expr} {c : CE} {cs : CA} (ha : JE X N E e c) (hr : JA X N E es cs) (hs : starEach (e :: es) X.env = (false, eval e X.env) :: starEach es X.env := by rfl) : JA X N E (e :: es) (cCons c cs) :=
  PA.imp (pa_cons ha hr hs) fun σ H Q q => by
    obtain ⟨W, σd, kv, kx, rfl, o, s, h, hv, hx⟩ := q
    refine tE.bind o s hx h fun W1 d v x1 o1 r1 s1 hx1 h1 => ?_
    refine tAr.bind o1 s1 hx1 h1 fun W2 ds vs x2 o2 r2 s2 hx2 h2 => ?_
    exact hv W2 (d :: ds) (v :: vs) (x1.trans o o1 x2) o2 (.cons (r1.mono o1 x2) r2) h2
def cTup (a : CA) : CE := fun σ η kv kx => a σ η (fun ds η1 => match Nat.ble ds.length line with
  | true => kv (.tup ds) η1
  | false => false) kx
def cLst (a : CA) : CE := fun σ η kv kx => a σ η (fun ds η1 => match Nat.ble ds.length line with
  | true => kv (.ref η1.nx) (η1.new (.lst ds))
  | false => false) kx
theorem Vk.tup {K : PySem.W.Frag} {W W0 : Wl} {kv : KV} {Q : VK} {ds : List D} {vs : List V} {p : Addr} (o : W.Ok K N.toNames) (hv : Vk K N W kv Q) (h : kv (.tup ds) W.η = true) (hp : W.H p = none) (r : RelDs W ds vs) : Q (.ref p) (upd W.H p (.tup vs)) :=
  new_tup (N := N) o (fun W' v x o' e r' => hv W' _ v x o' r' (by rw [e]; exact h)) hp r
theorem Vk.lst {K : PySem.W.Frag} {W : Wl} {kv : KV} {Q : VK} {ds : List D} {vs : List V} {p : Addr} (o : W.Ok K N.toNames) (hv : Vk K N W kv Q) (h : kv (.ref W.η.nx) (W.η.new (.lst ds)) = true) (hp : W.H p = none) (r : RelDs W ds vs) (hl : ds.length ≤ sizeLine) : Q (.ref p) (upd W.H p (.lst vs)) :=
  new_lst (N := N) o (fun W' v x o' e r' => hv W' _ v x o' r' (by rw [e]; exact h)) hp r hl
theorem je_tup {es : List Expr} {x1 : Nat} {pos : Pos} {c : CA} (h : JA X N E es c) : JE X N E (.Tuple es x1 pos) (cTup c) := PE.imp (pe_tup h) fun σ H Q q => by
  obtain ⟨W, σd, kv, kx, rfl, o, s, h, hv, hx⟩ := q
  refine tAr.bind o s hx h fun W1 ds vs x1 o1 r1 s1 hx1 h1 => ?_
  cases e : Nat.ble ds.length line with
  | false => rw [e] at h1; cases h1
  | true =>
    rw [e] at h1
    exact ⟨by rw [← r1.length]; exact Nat.le_of_ble_eq_true e, fun p hp => Vk.tup (W0 := W) o1 (hv.mono o o1 x1) h1 hp r1⟩
theorem je_lst {es : List Expr} {pos : Pos} {c : CA} (h : JA X N E es c) : JE X N E (.List es pos) (cLst c) := PE.imp (pe_lst h) fun σ H Q q => by
  obtain ⟨W, σd, kv, kx, rfl, o, s, h, hv, hx⟩ := q
  refine tAr.bind o s hx h fun W1 ds vs x1 o1 r1 s1 hx1 h1 => ?_
  cases e : Nat.ble ds.length line with
  | false => rw [e] at h1; cases h1
  | true =>
    rw [e] at h1
    have hl : ds.length ≤ sizeLine := Nat.le_of_ble_eq_true e
    exact ⟨by rw [← r1.length]; exact hl, fun p hp => Vk.lst o1 (hv.mono o o1 x1) h1 hp r1 hl⟩

/-! ### unary -/
def cNeg (a : CE) : CE := fun σ η kv kx => a σ η (fun x η1 => match x with
  | .int i => kv (.int (Int.neg i)) η1
  | _ => false) kx
theorem je_neg {a : Expr} {c : CE} {pos : Pos} (h : JE X N E a c) : JE X N E (.UnaryOp .USub a pos) (cNeg c) := PE.imp (pe_un un_neg h) fun σ H Q q => by
  obtain ⟨W, σd, kv, kx, rfl, o, s, h, hv, hx⟩ := q
  refine tE.bind o s hx h fun W1 d v x1 o1 r1 s1 hx1 h1 => ?_
  cases d with
  | int i => rw [relInt r1]; exact ⟨i, rfl, (hv.mono o o1 x1).here o1 mkInt h1⟩
  | _ => cases h1
def cNot (a : CE) : CE := fun σ η kv kx => a σ η (fun x η1 => match x with
  | .bl b => kv (.bl (!b)) η1
  | _ => false) kx
theorem je_not {a : Expr} {c : CE} {pos : Pos} (h : JE X N E a c) : JE X N E (.UnaryOp .Not a pos) (cNot c) := PE.imp (pe_not h) fun σ H Q q => by
  obtain ⟨W, σd, kv, kx, rfl, o, s, h, hv, hx⟩ := q
  refine tE.bind o s hx h fun W1 d v x1 o1 r1 s1 hx1 h1 => ?_
  cases d with
  | bl i => rw [relBl r1]; exact ⟨i, rfl, (hv.mono o o1 x1).here o1 mkBl h1⟩
  | _ => cases h1

/-! ### tests -/
def cTst (a : CE) : CT := fun σ η k kx => a σ η (fun x η1 => match x with
  | .bl b => k b η1
  | _ => false) kx
theorem jt_val {e : Expr} {c : CE} (h : JE X N E e c) (he : ∀ whole, isTrue e X.env whole = (do let v ← whole; standAt e.pos; holding [v] (truthy v)) := by intro _; rfl) : JT X N E e (cTst c) := PT.imp (pt_val h he) fun σ H Q q => by
  obtain ⟨W, σd, kv, kx, rfl, o, s, h, hv, hx⟩ := q
  refine tE.bind o s hx h fun W1 d v x1 o1 r1 s1 hx1 h1 => ?_
  cases d with
  | bl i => rw [relBl r1]; exact ⟨i, rfl, hv W1 i x1 o1 h1⟩
  | _ => cases h1
def ctAnd (a b : CT) : CT := fun σ η k kx => a σ η (fun x η1 => match x with
  | true => b σ η1 k kx
  | false => k false η1) kx
def ctOr (a b : CT) : CT := fun σ η k kx => a σ η (fun x η1 => match x with
  | true => k true η1
  | false => b σ η1 k kx) kx
def ctNot (a : CT) : CT := fun σ η k kx => a σ η (fun x η1 => k (!x) η1) kx
def JW (X : Cx) (N : Nm) (E : XK) (e : Expr) (c : CT) : Prop := PW X e (tT X.K N E c)
theorem jt_of {e : Expr} {c : CT} (h : JW X N E e c) : JT X N E e c := PW.pt h
theorem jw_and1 {a : Expr} {c : CT} {pos : Pos} (h : JT X N E a c) : JW X N E (.BoolOp .And [a] pos) c := pw_and1 h
theorem jw_or1 {a : Expr} {c : CT} {pos : Pos} (h : JT X N E a c) : JW X N E (.BoolOp .Or [a] pos) c := pw_or1 h
theorem jw_and {a b : Expr} {rest : List Expr} {c d : CT} {pos : Pos} (h : JT X N E a c) (h2 : JW X N E (.BoolOp .And (b :: rest) pos) d) : JW X N E (.BoolOp .And (a :: b :: rest) pos) (ctAnd c d) := PW.imp (pw_and h h2) fun σ H Q q => by
  obtain ⟨W, σd, kv, kx, rfl, o, s, h, hv, hx⟩ := q
  refine tT.bind o s hx h fun W1 b x1 o1 s1 hx1 h1 => ?_
  cases b with
  | true => rw [if_pos rfl]; exact tT.bind o1 s1 hx1 h1 fun W2 b2 x2 o2 _ _ h2 => hv W2 b2 (x1.trans o o1 x2) o2 h2
  | false => rw [if_neg (by decide)]; exact hv W1 false x1 o1 h1
theorem jw_or {a b : Expr} {rest : List Expr} {c d : CT} {pos : Pos} (h : JT X N E a c) (h2 : JW X N E (.BoolOp .Or (b :: rest) pos) d) : JW X N E (.BoolOp .Or (a :: b :: rest) pos) (ctOr c d) := PW.imp (pw_or h h2) fun σ H Q q => by
  obtain ⟨W, σd, kv, kx, rfl, o, s, h, hv, hx⟩ := q
  refine tT.bind o s hx h fun W1 b x1 o1 s1 hx1 h1 => ?_
  cases b with
  | true => rw [if_pos rfl]; exact hv W1 true x1 o1 h1
  | false => rw [if_neg (by decide)]; exact tT.bind o1 s1 hx1 h1 fun W2 b2 x2 o2 _ _ h2 => hv W2 b2 (x1.trans o o1 x2) o2 h2
theorem jt_not {a : Expr} {c : CT} {pos : Pos} (h : JT X N E a c) : JT X N E (.UnaryOp .Not a pos) (ctNot c) := PT.imp (pt_not h) fun σ H Q q => by
  obtain ⟨W, σd, kv, kx, rfl, o, s, h, hv, hx⟩ := q
  exact tT.bind o s hx h fun W1 b x1 o1 s1 hx1 h1 => hv W1 (!b) x1 o1 h1
/-- and, or as values (bools) -/
def cAnd (a b : CE) : CE := fun σ η kv kx => a σ η (fun x η1 => match x with
  | .bl true => b σ η1 kv kx
  | .bl false => kv (.bl false) η1
  | _ => false) kx
def cOr (a b : CE) : CE := fun σ η kv kx => a σ η (fun x η1 => match x with
  | .bl true => kv (.bl true) η1
  | .bl false => b σ η1 kv kx
  | _ => false) kx
theorem je_one {a : Expr} {c : CE} {op : BoolOp} {pos : Pos} (h : JE X N E a c) : JE X N E (.BoolOp op [a] pos) c := pe_one h
theorem je_and {a b : Expr} {rest : List Expr} {c d : CE} {pos : Pos} (h : JE X N E a c) (h2 : JE X N E (.BoolOp .And (b :: rest) pos) d) : JE X N E (.BoolOp .And (a :: b :: rest) pos) (cAnd c d) := PE.imp (pe_and h h2) fun σ H Q q => by
  obtain ⟨W, σd, kv, kx, rfl, o, s, h, hv, hx⟩ := q
  refine tE.bind o s hx h fun W1 d v x1 o1 r1 s1 hx1 h1 => ?_
  cases d with
  | bl b =>
    rw [relBl r1]
    cases b with
    | true => exact ⟨true, rfl, by rw [if_pos rfl]; exact tE.bind o1 s1 hx1 h1 fun W2 d2 v2 x2 o2 r2 _ _ h2 => hv W2 d2 v2 (x1.trans o o1 x2) o2 r2 h2⟩
    | false => exact ⟨false, rfl, by rw [if_neg (by decide)]; exact (hv.mono o o1 x1).here o1 mkBl h1⟩
  | _ => cases h1
theorem je_or {a b : Expr} {rest : List Expr} {c d : CE} {pos : Pos} (h : JE X N E a c) (h2 : JE X N E (.BoolOp .Or (b :: rest) pos) d) : JE X N E (.BoolOp .Or (a :: b :: rest) pos) (cOr c d) := PE.imp (pe_or h h2) fun σ H Q q => by
  obtain ⟨W, σd, kv, kx, rfl, o, s, h, hv, hx⟩ := q
  refine tE.bind o s hx h fun W1 d v x1 o1 r1 s1 hx1 h1 => ?_
  cases d with
  | bl b =>
    rw [relBl r1]
    cases b with
    | true => exact ⟨true, rfl, by rw [if_pos rfl]; exact (hv.mono o o1 x1).here o1 mkBl h1⟩
    | false => exact ⟨false, rfl, by rw [if_neg (by decide)]; exact tE.bind o1 s1 hx1 h1 fun W2 d2 v2 x2 o2 r2 _ _ h2 => hv W2 d2 v2 (x1.trans o o1 x2) o2 r2 h2⟩
  | _ => cases h1
def cIf (t : CT) (a b : CE) : CE := fun σ η kv kx => t σ η (fun x η1 => match x with
  | true => a σ η1 kv kx
  | false => b σ η1 kv kx) kx
theorem je_if {c a b : Expr} {ct : CT} {ca cb : CE} {pos : Pos} (hc : JT X N E c ct) (ha : JE X N E a ca) (hb : JE X N E b cb) : JE X N E (.IfExp c a b pos) (cIf ct ca cb) := PE.imp (pe_ifExp hc ha hb) fun σ H Q q => by
  obtain ⟨W, σd, kv, kx, rfl, o, s, h, hv, hx⟩ := q
  refine tT.bind o s hx h fun W1 b x1 o1 s1 hx1 h1 => ?_
  cases b with
  | true => rw [if_pos rfl]; exact tE.bind o1 s1 hx1 h1 fun W2 d2 v2 x2 o2 r2 _ _ h2 => hv W2 d2 v2 (x1.trans o o1 x2) o2 r2 h2
  | false => rw [if_neg (by decide)]; exact tE.bind o1 s1 hx1 h1 fun W2 d2 v2 x2 o2 r2 _ _ h2 => hv W2 d2 v2 (x1.trans o o1 x2) o2 r2 h2
/-- a < b < c -/
def cChain (f g : F2) (a b c : CE) : CE := fun σ η kv kx => a σ η (fun x η1 => b σ η1 (fun y η2 => match f x y η2 with
  | some (.bl true, η3) => c σ η3 (fun z η4 => match g y z η4 with
    | some (d, η5) => kv d η5
    | none => false) kx
  | some (.bl false, η3) => kv (.bl false) η3
  | _ => false) kx) kx
theorem tChain_of {f g : F2} {ca cb cc : CE} {K : PySem.W.Frag} {σ : St} {H : Hp} {Q : VK} (h : tE K N E (cChain f g ca cb cc) σ H Q) : tChain (r2 K N f) (r2 K N g) (tE K N E ca) (tE K N E cb) (tE K N E cc) σ H Q := by
  obtain ⟨W, σd, kv, kx, rfl, o, s, h, hv, hx⟩ := h
  refine tE.bind o s hx h fun W1 dx x x1 o1 r1 s1 hx1 h1 => ?_
  refine tE.bind o1 s1 hx1 h1 fun W2 dy y x2 o2 r2' s2 hx2 h2 => ?_
  have x02 := x1.trans o o1 x2
  cases e : f dx dy W2.η with
  | none => rw [e] at h2; cases h2
  | some p =>
    obtain ⟨d, η'⟩ := p
    rw [e] at h2
    refine ⟨W2, dx, dy, d, η', rfl, o2, r1.mono o1 x2, r2', e, fun W3 v x3 o3 e3 r3 => ?_⟩
    cases d with
    | bl b =>
      rw [relBl r3]
      cases b with
      | true =>
        refine ⟨true, rfl, ?_⟩
        rw [if_pos rfl]
        refine tE.bind o3 (s2.mono o2 x3) (hx2.mono o2 o3 x3) (by rw [e3]; exact h2) fun W4 dz z x4 o4 r4 s4 hx4 h4 => ?_
        have ry : RelD W4 dy y := (r2'.mono o2 x3).mono o3 x4
        cases e4 : g dy dz W4.η with
        | none => rw [e4] at h4; cases h4
        | some p =>
          obtain ⟨d, η'⟩ := p
          rw [e4] at h4
          exact ⟨W4, dy, dz, d, η', rfl, o4, ry, r4, e4, fun W5 v x5 o5 e5 r5 => hv W5 d v (x02.trans o o2 (x3.trans o2 o3 (x4.trans o3 o4 x5))) o5 r5 (by rw [e5]; exact h4)⟩
      | false =>
        refine ⟨false, rfl, ?_⟩
        rw [if_neg (by decide)]
        exact (hv.mono o o3 (x02.trans o o2 x3)).here o3 mkBl (by rw [e3]; exact h2)
    | _ => cases h2
theorem je_chain {op op' : CmpOp} {f g : F2} {a b c : Expr} {ca cb cc : CE} {pos : Pos} (ho : OpR X (compareOp op) (r2 X.K N f)) (ho' : OpR X (compareOp op') (r2 X.K N g)) (ha : JE X N E a ca) (hb : JE X N E b cb) (hc : JE X N E c cc)
    (hm : lastMarks [op, op'] [b, c] = false := by rfl) : JE X N E (.Compare a [op, op'] [b, c] pos) (cChain f g ca cb cc) := by
  refine PE.imp (pe_chain ho ho' ha hb hc ?_) fun σ H Q q => tChain_of q
  all_goals first | exact hm | (intros; rfl)
end
end DL

/-! tests by comparison, subscripts, slices, built-ins, methods -/
namespace DL
open PySem PySem.Spec L2
section
variable {X : Cx} {N : Nm} {E : XK}
theorem tTest_of {c : CE} {K : PySem.W.Frag} {σ : St} {H : Hp} {Q : Bool → Hp → Prop} (h : tT K N E (cTst c) σ H Q) : tE K N E c σ H (fun x H' => ∃ k, x = .bl k ∧ Q k H') := by
  obtain ⟨W, σd, kv, kx, rfl, o, s, h, hv, hx⟩ := h
  refine tE.bind o s hx h fun W1 d v x1 o1 r1 s1 hx1 h1 => ?_
  cases d with
  | bl i => rw [relBl r1]; exact ⟨i, rfl, hv W1 i x1 o1 h1⟩
  | _ => cases h1
theorem jt_cmp {op : CmpOp} {f : F2} {a b : Expr} {ca cb : CE} {pos : Pos} (ho : OpR X (compareOp op) (r2 X.K N f)) (ha : JE X N E a ca) (hb : JE X N E b cb) (hm : behindInMarks op b = false) : JT X N E (.Compare a [op] [b] pos) (cTst (cOp f ca cb)) :=
  PT.imp (pt_cmpR ho ha hb hm) fun σ H Q q => tOp_of (tTest_of q)
theorem jt_chain {op op' : CmpOp} {f g : F2} {a b c : Expr} {ca cb cc : CE} {pos : Pos} (ho : OpR X (compareOp op) (r2 X.K N f)) (ho' : OpR X (compareOp op') (r2 X.K N g)) (ha : JE X N E a ca) (hb : JE X N E b cb) (hc : JE X N E c cc)
    (hm : lastMarks [op, op'] [b, c] = false := by with_unfolding_all rfl) : JT X N E (.Compare a [op, op'] [b, c] pos) (cTst (cChain f g ca cb cc)) :=
  PT.imp (pt_chain ho ho' ha hb hc hm) fun σ H Q q => tChain_of (tTest_of q)

/-! ### subscripts -/
def atD (l : List D) : Int → Option D
  | .ofNat n => l[n]?
  | .negSucc n => match Nat.ble (n + 1) l.length with
    | true => l[l.length - (n + 1)]?
    | false => none
theorem atD_atI {W : Wl} {l : List D} {vs : List V} {i : Int} {d : D} (r : RelDs W l vs) (h : atD l i = some d) : ∃ v, atI vs i = some v ∧ RelD W d v := by
  have hl := r.length
  cases i with
  | ofNat n =>
    have h' : l[n]? = some d := h
    obtain ⟨v, e, rv⟩ := r.get' h'
    have hn : n < vs.length := (List.getElem?_eq_some_iff.mp e).1
    refine ⟨v, ?_, rv⟩
    unfold atI ixN
    rw [if_pos (show (0 : Int) ≤ Int.ofNat n from Int.natCast_nonneg n), if_pos (show Int.ofNat n < (vs.length : Int) from by show ((n : Nat) : Int) < _; omega)]
    exact e
  | negSucc n =>
    simp only [atD] at h
    cases e : Nat.ble (n + 1) l.length with
    | false => rw [e] at h; cases h
    | true =>
      rw [e] at h
      have hb : n + 1 ≤ l.length := Nat.le_of_ble_eq_true e
      obtain ⟨v, ev, rv⟩ := r.get' h
      refine ⟨v, ?_, rv⟩
      unfold atI ixN
      have e1 : Int.negSucc n = -((n + 1 : Nat) : Int) := rfl
      rw [if_neg (show ¬ (0 : Int) ≤ Int.negSucc n from by rw [e1]; omega), if_pos (show -(vs.length : Int) ≤ Int.negSucc n from by rw [e1]; omega)]
      have e2 : (Int.negSucc n + (vs.length : Int)).toNat = l.length - (n + 1) := by rw [e1]; omega
      show vs[(Int.negSucc n + (vs.length : Int)).toNat]? = some v
      rw [e2]; exact ev
/-- the value under a key -/
def eqK1 : D → D → Bool
  | .int i, .int j => ieq i j
  | .str a, .str b => decide (a = b)
  | _, _ => false
def eqK : D → D → Bool
  | .tup a, .tup b => eqL eqK1 a b
  | x, y => eqK1 x y
def isKey : Bool → D → Bool
  | false, .int _ => true
  | false, .str _ => true
  | true, .tup l => l.all fun x => match x with
    | .int _ => true
    | .str _ => true
    | _ => false
  | _, _ => false
def dlook (k : D) : List (D × D) → Option D
  | [] => none
  | p :: r => match eqK p.1 k with
    | true => some p.2
    | false => dlook k r
theorem ieq_iff {i j : Int} : ieq i j = true ↔ i = j := by rw [ieq_eq]; exact beq_iff_eq
theorem key0_eq {x y : D} {a b : Key} (hx : D.key x = some a) (hy : D.key y = some b) : eqK1 x y = decide (a = b) := by
  cases x with
  | int i =>
    cases hx
    cases y with
    | int j =>
      cases hy
      show ieq i j = decide ((Sum.inl i : Key) = Sum.inl j)
      rw [ieq_eq, key_ll]
    | str s => cases hy; exact (key_lr i s).symm
    | _ => cases hy
  | str s =>
    cases hx
    cases y with
    | int j => cases hy; exact (key_rl s j).symm
    | str t => cases hy; exact (key_rr s t).symm
    | _ => cases hy
  | _ => cases hx
theorem key1_eq {x y : D} {a b : Key} (hx : D.key x = some a) (hy : D.key y = some b) : eqK x y = decide (a = b) := by
  rw [← key0_eq hx hy]
  cases x <;> cases y <;> first | rfl | (cases hx) | (cases hy)
theorem keysOf_cons {x : D} {xs : List D} {a : List Key} (h : keysOf (x :: xs) = some a) : ∃ k ks, a = k :: ks ∧ D.key x = some k ∧ keysOf xs = some ks := by
  simp only [keysOf] at h
  cases e : D.key x with
  | none => rw [e] at h; cases h
  | some k =>
    cases e2 : keysOf xs with
    | none => rw [e, e2] at h; cases h
    | some ks => rw [e, e2] at h; cases h; exact ⟨k, ks, rfl, rfl, rfl⟩
theorem keyT_eq : ∀ {l m : List D} {a b : List Key}, keysOf l = some a → keysOf m = some b → eqK (.tup l) (.tup m) = decide (a = b)
  | [], m, a, b, hx, hy => by
    cases hx
    cases m with
    | nil => cases hy; rfl
    | cons y ys => obtain ⟨k, ks, rfl, _, _⟩ := keysOf_cons hy; simp [eqK, eqL]
  | x :: xs, m, a, b, hx, hy => by
    obtain ⟨k, ks, rfl, h1, h2⟩ := keysOf_cons hx
    cases m with
    | nil => cases hy; simp [eqK, eqL]
    | cons y ys =>
      obtain ⟨k', ks', rfl, g1, g2⟩ := keysOf_cons hy
      have e1 := key0_eq h1 g1
      have e2 : eqL eqK1 xs ys = decide (ks = ks') := keyT_eq h2 g2
      show eqL eqK1 (x :: xs) (y :: ys) = _
      unfold eqL
      rw [e1]
      by_cases hk : k = k'
      · rw [decide_eq_true hk]
        show eqL eqK1 xs ys = _
        rw [e2]
        by_cases hks : ks = ks'
        · rw [decide_eq_true hks, decide_eq_true (by rw [hk, hks])]
        · rw [decide_eq_false hks, decide_eq_false (by intro z; cases z; exact hks rfl)]
      · rw [decide_eq_false hk]
        exact (decide_eq_false (by intro z; cases z; exact hk rfl)).symm
theorem dlookK {W : Wl} {k : D} {k' : Key} (hk : D.key k = some k') : ∀ {kvs : List (D × D)} {ps : List (Key × V)}, RelK W kvs ps → (∀ d, dlook k kvs = some d → ∃ v, valV ps k' = some v ∧ RelD W d v) ∧ (dlook k kvs = none → valV ps k' = none)
  | [], ps, h => by rw [RelK] at h; subst h; exact ⟨fun d e => (nomatch e), fun _ => rfl⟩
  | (a, b) :: r, ps, h => by
    rw [RelK] at h
    obtain ⟨a', v, ps', rfl, h1, h2, h3⟩ := h
    obtain ⟨ih1, ih2⟩ := dlookK hk h3
    have e := key1_eq h1 hk
    unfold dlook
    by_cases z : a' = k'
    · have e2 : eqK a k = true := by rw [e, decide_eq_true z]
      simp only [e2]
      exact ⟨fun d q => by cases q; exact ⟨v, valV_pos z, h2⟩, fun q => by cases q⟩
    · have e2 : eqK a k = false := by rw [e, decide_eq_false z]
      simp only [e2]
      rw [valV_neg z]
      exact ⟨ih1, ih2⟩
theorem dlookT {W : Wl} {k : D} {k' : List Key} (hk : D.tkey k = some k') : ∀ {kvs : List (D × D)} {ps : List (List Key × V)}, RelT W kvs ps → (∀ d, dlook k kvs = some d → ∃ v, valV ps k' = some v ∧ RelD W d v) ∧ (dlook k kvs = none → valV ps k' = none)
  | [], ps, h => by rw [RelT] at h; subst h; exact ⟨fun d e => (nomatch e), fun _ => rfl⟩
  | (a, b) :: r, ps, h => by
    rw [RelT] at h
    obtain ⟨a', v, ps', rfl, h1, h2, h3⟩ := h
    obtain ⟨ih1, ih2⟩ := dlookT hk h3
    have e : eqK a k = decide (a' = k') := by
      cases a with
      | tup l =>
        cases k with
        | tup m => exact keyT_eq h1 hk
        | _ => cases hk
      | _ => cases h1
    unfold dlook
    by_cases z : a' = k'
    · have e2 : eqK a k = true := by rw [e, decide_eq_true z]
      simp only [e2]
      exact ⟨fun d q => by cases q; exact ⟨v, valV_pos z, h2⟩, fun q => by cases q⟩
    · have e2 : eqK a k = false := by rw [e, decide_eq_false z]
      simp only [e2]
      rw [valV_neg z]
      exact ⟨ih1, ih2⟩
theorem key_rel {W : Wl} {k : D} {k' : Key} {v : V} (hk : D.key k = some k') (r : RelD W k v) : v = kV k' := by
  cases k with
  | int i => cases hk; exact relInt r
  | str i => cases hk; exact relStr r
  | _ => cases hk
theorem keys_rel {W : Wl} : ∀ {l : List D} {ks : List Key} {vs : List V}, keysOf l = some ks → RelDs W l vs → vs = ks.map kV
  | [], ks, vs, h, r => by cases h; rw [RelDs] at r; subst r; rfl
  | x :: xs, ks, vs, h, r => by
    obtain ⟨k, ks', rfl, h1, h2⟩ := keysOf_cons h
    rw [RelDs] at r
    obtain ⟨v, vs', rfl, r1, r2⟩ := r
    rw [key_rel h1 r1, keys_rel h2 r2]; rfl
theorem isKey_key {k : D} (h : isKey false k = true) : ∃ k', D.key k = some k' := by
  cases k with
  | int i => exact ⟨_, rfl⟩
  | str i => exact ⟨_, rfl⟩
  | _ => cases h
theorem isKey_keys : ∀ {l : List D}, isKey true (.tup l) = true → ∃ k', keysOf l = some k'
  | [], _ => ⟨[], rfl⟩
  | x :: xs, h => by
    simp only [isKey, List.all_cons, Bool.and_eq_true] at h
    obtain ⟨ks, e⟩ := isKey_keys (l := xs) h.2
    cases x with
    | int i => exact ⟨.inl i :: ks, by simp only [keysOf, D.key, e]⟩
    | str i => exact ⟨.inr i :: ks, by simp only [keysOf, D.key, e]⟩
    | _ => exact absurd h.1 (by simp)
theorem isKey_tkey {k : D} (h : isKey true k = true) : ∃ k', D.tkey k = some k' := by
  cases k with
  | tup l => exact isKey_keys h
  | _ => cases h
/-- what a dict's cell tells of a key -/
theorem dget_of {K : PySem.W.Frag} {W : Wl} {r : Nat} {t : Bool} {kvs : List (D × D)} {k : D} {v : V} (o : W.Ok K N.toNames) (h : W.η.get r = some (.dct t kvs)) (hk : isKey t k = true) (rk : RelD W k v) :
    (∀ d, dlook k kvs = some d → ∃ w, DGet W.H (W.μ r) v (some w) ∧ RelD W d w) ∧ (dlook k kvs = none → DGet W.H (W.μ r) v none) := by
  have c := o.cell r _ h
  cases t with
  | false =>
    obtain ⟨ps, h1, h2, h3⟩ := c
    obtain ⟨k', hk'⟩ := isKey_key hk
    obtain ⟨a, b⟩ := dlookK hk' h2
    have ev := key_rel hk' rk
    subst ev
    exact ⟨fun d e => by obtain ⟨w, e1, e2⟩ := a d e; exact ⟨w, .inl ⟨ps, k', .inl h1, rfl, e1.symm⟩, e2⟩, fun e => .inl ⟨ps, k', .inl h1, rfl, (b e).symm⟩⟩
  | true =>
    obtain ⟨ps, h1, h2, h3⟩ := c
    obtain ⟨k', hk'⟩ := isKey_tkey hk
    obtain ⟨a, b⟩ := dlookT hk' h2
    cases k with
    | tup l =>
      obtain ⟨q, vs, rfl, hq, rq⟩ := relTup rk
      have ev := keys_rel hk' rq
      subst ev
      exact ⟨fun d e => by obtain ⟨w, e1, e2⟩ := a d e; exact ⟨w, .inr ⟨ps, k', q, .inl h1, rfl, hq, e1.symm⟩, e2⟩, fun e => .inr ⟨ps, k', q, .inl h1, rfl, hq, (b e).symm⟩⟩
    | _ => cases hk
/-- o[i] -/
def fIx : F2 := fun x y η => match x, y with
  | .tup l, .int i => match atD l i with
    | some d => some (d, η)
    | none => none
  | .ref r, k => match η.get r with
    | some (.lst l) => match k with
      | .int i => match atD l i with
        | some d => some (d, η)
        | none => none
      | _ => none
    | some (.frz l) => match k with
      | .int i => match atD l i with
        | some d => some (d, η)
        | none => none
      | _ => none
    | some (.dct t kvs) => match isKey t k with
      | true => match dlook k kvs with
        | some d => some (d, η)
        | none => none
      | false => none
    | _ => none
  | _, _ => none
theorem ix_dict (hu : X.A.units + 1 < cLine) : IxR X (fun x y H Q => ∃ a v, x = .ref a ∧ DGet H a y (some v) ∧ Q v H) := by
  intro value slice pins s σ H x y v u Q I rx ry h hs
  obtain ⟨a, w, rfl, g, q⟩ := h
  obtain rfl : v = Value.ref a := rx
  have ht := dict_typeIs I g
  exact PyProof.Rows.tail_any ht PySem.F.slot_dict_getitem.lookup (d_getItem hu I g ry fun w' s3 I3 rw' => ⟨w, H, I3, rw', q⟩) hs
theorem IxR.or {r r' : R2} (h : IxR X r) (h' : IxR X r') : IxR X (fun x y H Q => r x y H Q ∨ r' x y H Q) := by
  intro value slice pins s σ H x y v u Q I rx ry hh hs
  rcases hh with hh | hh
  · exact h value slice pins s σ H x y v u Q I rx ry hh hs
  · exact h' value slice pins s σ H x y v u Q I rx ry hh hs
theorem fIx_ok {K : PySem.W.Frag} {x y : V} {H : Hp} {Q : VK} (q : r2 K N fIx x y H Q) : (rIxL K x y H Q ∨ rIxT K x y H Q) ∨ ∃ a v, x = .ref a ∧ DGet H a y (some v) ∧ Q v H := by
  obtain ⟨W, dx, dy, d, η', rfl, o, rx, ry, hf, hq⟩ := q
  have lcase : ∀ {r : Nat} {l : List D} {k : D}, W.η.list r = some l → RelD W (.ref r) x → RelD W k y → (match k with | .int i => (match atD l i with | some d => some (d, W.η) | none => none) | _ => none) = some (d, η') → rIxL K x y W.H Q := by
    intro r l k hl rx ry hf
    cases k with
    | int i =>
      simp only at hf
      cases e : atD l i with
      | none => rw [e] at hf; cases hf
      | some d' =>
        rw [e] at hf
        simp only [Option.some.injEq, Prod.mk.injEq] at hf
        obtain ⟨rfl, rfl⟩ := hf
        obtain ⟨vs, h1, h2, h3⟩ := list_of o hl
        obtain ⟨v, e1, e2⟩ := atD_atI h2 e
        rw [relRef rx, relInt ry]
        exact ⟨_, vs, i, v, rfl, rfl, h1, e1, same_w o hq e2⟩
    | _ => cases hf
  cases dx with
  | tup l =>
    cases dy with
    | int i =>
      simp only [fIx] at hf
      cases e : atD l i with
      | none => rw [e] at hf; cases hf
      | some d' =>
        rw [e] at hf
        simp only [Option.some.injEq, Prod.mk.injEq] at hf
        obtain ⟨rfl, rfl⟩ := hf
        obtain ⟨p, vs, rfl, hs, rs⟩ := relTup rx
        obtain ⟨v, e1, e2⟩ := atD_atI rs e
        rw [relInt ry]
        exact .inl (.inr ⟨p, vs, i, v, rfl, rfl, SqT.of hs, e1, same_w o hq e2⟩)
    | _ => cases hf
  | ref r =>
    simp only [fIx] at hf
    cases e : W.η.get r with
    | none => rw [e] at hf; cases hf
    | some c =>
      rw [e] at hf
      cases c with
      | lst l => exact .inl (.inl (lcase (r := r) (l := l) (k := dy) (by unfold Hd.list; rw [e]) rx ry hf))
      | frz l => exact .inl (.inl (lcase (r := r) (l := l) (k := dy) (by unfold Hd.list; rw [e]) rx ry hf))
      | dct t kvs =>
        simp only at hf
        cases ek : isKey t dy with
        | false => rw [ek] at hf; cases hf
        | true =>
          rw [ek] at hf
          simp only at hf
          cases el : dlook dy kvs with
          | none => rw [el] at hf; cases hf
          | some d' =>
            rw [el] at hf
            simp only [Option.some.injEq, Prod.mk.injEq] at hf
            obtain ⟨rfl, rfl⟩ := hf
            obtain ⟨w, g, rw'⟩ := (dget_of o e ek ry).1 _ el
            rw [relRef rx]
            exact .inr ⟨_, w, rfl, g, same_w o hq rw'⟩
      | _ => cases hf
  | _ => cases hf
theorem je_ix {a b : Expr} {ca cb : CE} {pos : Pos} (hu : X.A.units + 1 < cLine) (ha : JE X N E a ca) (hb : JE X N E b cb) (hs : PlainIx b) : JE X N E (.Subscript a b pos) (cOp fIx ca cb) :=
  PE.imp (pe_ix (IxR.or (IxR.or ix_list ix_tup) (ix_dict hu)) ha hb hs) fun σ H Q q => by
    have h := tOp_of q
    obtain ⟨W, σd, kv, kx, e1, o, s, h1, hv, hx⟩ := h
    exact ⟨W, σd, kv, kx, e1, o, s, h1, fun W1 d v x1 o1 r1 h2 => by
      obtain ⟨W', σd', kv', kx', e1', o', s', h1', hv', hx'⟩ := hv W1 d v x1 o1 r1 h2
      exact ⟨W', σd', kv', kx', e1', o', s', h1', fun W2 d2 v2 x2 o2 r2 h3 => fIx_ok (hv' W2 d2 v2 x2 o2 r2 h3), hx'⟩, hx⟩
end
end DL

/-! slices, built-ins, methods -/
namespace DL
open PySem PySem.Spec L2
section
variable {X : Cx} {N : Nm} {E : XK}
/-! ### slices -/
abbrev CO := SD → Hd → (Option Int → Hd → Bool) → KX → Bool
def tO (K : PySem.W.Frag) (N : Nm) (E : XK) (c : CO) : TO := fun σ H Q => ∃ W σd kv kx, W.H = H ∧ W.Ok K N.toNames ∧ RelS W σd σ ∧ c σd W.η kv kx = true ∧ (∀ W' b, Ext W W' → W'.Ok K N.toNames → kv b W'.η = true → Q b W'.H) ∧ Xk K N E W kx
def JO (X : Cx) (N : Nm) (E : XK) (e : Option Expr) (c : CO) : Prop := PO X e (tO X.K N E c)
theorem PO.imp {X : Cx} {e : Option Expr} {t t' : TO} (h : PO X e t) (f : ∀ σ H Q, t' σ H Q → t σ H Q) : PO X e t' := ⟨fun pins s σ H Q I q => h.run pins s σ H Q I (f σ H Q q)⟩
def coN : CO := fun _ η k _ => k none η
def coS (c : CE) : CO := fun σ η k kx => c σ η (fun x η1 => match x with
  | .int i => k (some i) η1
  | _ => false) kx
theorem jo_none : JO X N E none coN := PO.imp po_none fun σ H Q q => by
  obtain ⟨W, σd, kv, kx, rfl, o, s, h, hv, hx⟩ := q
  exact hv W none (Ext.refl W) o h
theorem jo_some {e : Expr} {c : CE} (h : JE X N E e c) : JO X N E (some e) (coS c) := PO.imp (po_some h) fun σ H Q q => by
  obtain ⟨W, σd, kv, kx, rfl, o, s, h, hv, hx⟩ := q
  refine tE.bind o s hx h fun W1 d v x1 o1 r1 s1 hx1 h1 => ?_
  cases d with
  | int i => rw [relInt r1]; exact ⟨i, rfl, hv W1 (some i) x1 o1 h1⟩
  | _ => cases h1
theorem tO.bind {K : PySem.W.Frag} {W : Wl} {kx : KX} {c : CO} {kt : Option Int → Hd → Bool} {σ : St} {σd : SD} {Q' : Option Int → Hp → Prop} (o : W.Ok K N.toNames) (s : RelS W σd σ) (hx : Xk K N E W kx) (h : c σd W.η kt kx = true)
    (hq : ∀ W' b, Ext W W' → W'.Ok K N.toNames → RelS W' σd σ → Xk K N E W' kx → kt b W'.η = true → Q' b W'.H) : tO K N E c σ W.H Q' :=
  ⟨W, σd, kt, kx, rfl, o, s, h, fun W' b x o' e => hq W' b x o' (s.mono o x) (hx.mono o o' x) e, hx⟩
def cutD (xs : List D) (lo hi : Option Int) : List D := (xs.drop (HT.sIx xs.length 0 lo)).take (HT.sIx xs.length xs.length hi - HT.sIx xs.length 0 lo)
theorem cutD_rel {W : Wl} {xs : List D} {vs : List V} (r : RelDs W xs vs) (lo hi : Option Int) : RelDs W (cutD xs lo hi) (cutV vs lo hi) := by
  unfold cutD cutV
  rw [r.length]
  exact (r.drop _).take _
theorem cutD_len (xs : List D) (lo hi : Option Int) : (cutD xs lo hi).length ≤ xs.length := by
  unfold cutD
  rw [List.length_take, List.length_drop]; omega
def slF (η : Hd) (x : D) (lo hi : Option Int) : Option (D × Hd) := match x with
  | .tup l => some (.tup (cutD l lo hi), η)
  | .ref r => match η.list r with
    | some l => some (.ref η.nx, η.new (.lst (cutD l lo hi)))
    | none => none
  | _ => none
def cSl (a : CE) (lo hi : CO) : CE := fun σ η kv kx => a σ η (fun x η1 => lo σ η1 (fun l η2 => hi σ η2 (fun h η3 => match slF η3 x l h with
  | some (d, η4) => kv d η4
  | none => false) kx) kx) kx
theorem SlR.or {r r' : V → Option Int → Option Int → Hp → VK → Prop} (h : SlR X r) (h' : SlR X r') : SlR X (fun x l u H Q => r x l u H Q ∨ r' x l u H Q) := by
  intro pins s σ H x v vl vu lo hi sl Q I rx hs p1 p2 hh
  rcases hh with hh | hh
  · exact h pins s σ H x v vl vu lo hi sl Q I rx hs p1 p2 hh
  · exact h' pins s σ H x v vl vu lo hi sl Q I rx hs p1 p2 hh
theorem je_slice {a : Expr} {lo hi : Option Expr} {ca : CE} {cl ch : CO} {pos p2 : Pos} (ha : JE X N E a ca) (hl : JO X N E lo cl) (hh : JO X N E hi ch) : JE X N E (.Subscript a (.Slice lo hi none p2) pos) (cSl ca cl ch) :=
  PE.imp (pe_slice (SlR.or sl_list sl_tupA) ha hl hh) fun σ H Q q => by
    obtain ⟨W, σd, kv, kx, rfl, o, s, h, hv, hx⟩ := q
    refine tE.bind o s hx h fun W1 d v x1 o1 r1 s1 hx1 h1 => ?_
    refine tO.bind o1 s1 hx1 h1 fun W2 l x2 o2 s2 hx2 h2 => ?_
    refine tO.bind o2 s2 hx2 h2 fun W3 u x3 o3 s3 hx3 h3 => ?_
    have r3 : RelD W3 d v := (r1.mono o1 x2).mono o2 x3
    have x03 := x1.trans o o1 (x2.trans o1 o2 x3)
    have hv3 := hv.mono o o3 x03
    cases e : slF W3.η d l u with
    | none => rw [e] at h3; cases h3
    | some p =>
      obtain ⟨d', η'⟩ := p
      rw [e] at h3
      cases d with
      | tup xs =>
        simp only [slF, Option.some.injEq, Prod.mk.injEq] at e
        obtain ⟨rfl, rfl⟩ := e
        obtain ⟨p, vs, rfl, hs, rs⟩ := relTup r3
        refine .inr ⟨p, vs, rfl, SqT.of hs, fun hc => ?_, fun _ p hp => Vk.tup (W0 := W) o3 hv3 h3 hp (cutD_rel rs l u)⟩
        have e1 : cutD xs l u = xs := by
          unfold cutD
          rw [rs.length, hc.1, hc.2, List.drop_zero]
          exact List.take_of_length_le (by rw [rs.length]; exact Nat.le_refl _)
        rw [e1] at h3
        exact hv3.here o3 (mkTup hs rs) h3
      | ref r =>
        simp only [slF] at e
        cases el : W3.η.list r with
        | none => rw [el] at e; cases e
        | some xs =>
          rw [el] at e
          simp only [Option.some.injEq, Prod.mk.injEq] at e
          obtain ⟨rfl, rfl⟩ := e
          obtain ⟨vs, g1, g2, g3⟩ := list_of o3 el
          rw [relRef r3]
          exact .inl ⟨_, vs, rfl, g1, fun p hp => Vk.lst o3 hv3 h3 hp (cutD_rel g2 l u) (Nat.le_trans (cutD_len xs l u) g3)⟩
      | _ => cases e

/-! ### built-ins by values -/
abbrev FN := List D → Hd → Option (D × Hd)
def rN (K : PySem.W.Frag) (N : Nm) (f : FN) : List V → Hp → VK → Prop := fun xs H Q => ∃ W ds d η', W.H = H ∧ W.Ok K N.toNames ∧ RelDs W ds xs ∧ f ds W.η = some (d, η') ∧
  (∀ W' v, Ext W W' → W'.Ok K N.toNames → W'.η = η' → RelD W' d v → Q v W'.H)
def cFn (f : FN) (a : CA) : CE := fun σ η kv kx => a σ η (fun ds η1 => match f ds η1 with
  | some (d, η2) => kv d η2
  | none => false) kx
theorem CallR.imp {f : Value} {r r' : List V → Hp → VK → Prop} (h : CallR X f r) (i : ∀ x H Q, r' x H Q → r x H Q) : CallR X f r' :=
  fun pins s σ H x v Q I rx q => h pins s σ H x v Q I rx (i x H Q q)
theorem CallR.or {f : Value} {r r' : List V → Hp → VK → Prop} (h : CallR X f r) (h' : CallR X f r') : CallR X f (fun x H Q => r x H Q ∨ r' x H Q) :=
  fun pins s σ H x v Q I rx q => q.elim (h pins s σ H x v Q I rx) (h' pins s σ H x v Q I rx)
theorem tCB_of {f : FN} {c : CA} {K : PySem.W.Frag} {σ : St} {H : Hp} {Q : VK} (h : tE K N E (cFn f c) σ H Q) : tCB (rN K N f) (tAr K N E c) σ H Q := by
  obtain ⟨W, σd, kv, kx, rfl, o, s, h, hv, hx⟩ := h
  refine tAr.bind o s hx h fun W1 ds vs x1 o1 r1 s1 hx1 h1 => ?_
  cases e : f ds W1.η with
  | none => rw [e] at h1; cases h1
  | some p =>
    obtain ⟨d, η'⟩ := p
    rw [e] at h1
    exact ⟨W1, ds, d, η', rfl, o1, r1, e, fun W' v x3 o3 e3 r3 => hv W' d v (x1.trans o o1 x3) o3 r3 (by rw [e3]; exact h1)⟩
theorem je_blt {x : Str} {id : String} {f : FN} {e : Expr} {es : List Expr} {c : CA} {p pos : Pos} (hc : CallR X (.builtin id) (rN X.K N f)) (hg : Gl X x) (hm : X.mg x = none) (hv : bootBuiltins x = some (.builtin id)) (ha : JA X N E (e :: es) c)
    (hn : x ≠ "__name__" := by decide) (hdb : (x == ("__debug__" : Str)) = false := by decide) (hs : starEach (e :: es) X.env = (false, eval e X.env) :: starEach es X.env := by rfl)
    (hpl : (backTo pos (starEach es X.env)).any (·.1) = false := by rfl) : JE X N E (.Call (.Name x p) (e :: es) [] pos) (cFn f c) :=
  PE.imp (pe_callB hc hg hm hv ha hn hdb hs hpl) fun σ H Q q => tCB_of q
theorem je_ty {x : Str} {T : String} {f : FN} {e : Expr} {es : List Expr} {c : CA} {p pos : Pos} (hc : CallR X (.type T) (rN X.K N f)) (hg : Gl X x) (hm : X.mg x = none) (hv : bootBuiltins x = some (.type T)) (ha : JA X N E (e :: es) c)
    (hn : x ≠ "__name__" := by decide) (hdb : (x == ("__debug__" : Str)) = false := by decide) (hs : starEach (e :: es) X.env = (false, eval e X.env) :: starEach es X.env := by rfl)
    (hpl : (backTo pos (starEach es X.env)).any (·.1) = false := by rfl) : JE X N E (.Call (.Name x p) (e :: es) [] pos) (cFn f c) :=
  PE.imp (pe_callTy hc hg hm hv ha hn hdb hs hpl) fun σ H Q q => tCB_of q
theorem rel1 {W : Wl} {d : D} {vs : List V} (h : RelDs W [d] vs) : ∃ v, vs = [v] ∧ RelD W d v := by
  rw [RelDs] at h
  obtain ⟨v, vs', rfl, h1, h2⟩ := h
  rw [RelDs] at h2
  subst h2
  exact ⟨v, rfl, h1⟩
theorem rel2 {W : Wl} {d e : D} {vs : List V} (h : RelDs W [d, e] vs) : ∃ v u, vs = [v, u] ∧ RelD W d v ∧ RelD W e u := by
  rw [RelDs] at h
  obtain ⟨v, vs', rfl, h1, h2⟩ := h
  obtain ⟨u, rfl, h3⟩ := rel1 h2
  exact ⟨v, u, rfl, h1, h3⟩
/-- f(one thing) -/
def f1 (g : D → Hd → Option (D × Hd)) : FN := fun ds η => match ds with
  | [d] => g d η
  | _ => none
theorem f1_inv {g : D → Hd → Option (D × Hd)} {ds : List D} {η : Hd} {p : D × Hd} (h : f1 g ds η = some p) : ∃ d, ds = [d] ∧ g d η = some p := by
  match ds, h with
  | [d], h => exact ⟨d, rfl, h⟩
  | [], h => cases h
  | _ :: _ :: _, h => cases h
def gLen (d : D) (η : Hd) : Option (D × Hd) := match d with
  | .tup l => some (.int (Int.ofNat l.length), η)
  | .ref r => match η.get r with
    | some (.lst l) => some (.int (Int.ofNat l.length), η)
    | some (.frz l) => some (.int (Int.ofNat l.length), η)
    | _ => none
  | .str z => match Nat.ble z.length line with
    | true => some (.int (Int.ofNat z.length), η)
    | false => none
  | _ => none
def fLen : FN := f1 gLen
theorem blt_len : CallR X (.builtin "len") (rN X.K N fLen) := CallR.imp (CallR.or call_len_seq call_len_str) fun xs H Q q => by
  obtain ⟨W, ds, d, η', rfl, o, rs, hf, hq⟩ := q
  obtain ⟨x, rfl, hg⟩ := f1_inv hf
  clear hf
  have hf := hg
  clear hg
  obtain ⟨v, rfl, rx⟩ := rel1 rs
  cases x with
  | tup l =>
    simp only [gLen, Option.some.injEq, Prod.mk.injEq] at hf
    obtain ⟨rfl, rfl⟩ := hf
    obtain ⟨p, vs, rfl, hs, rs⟩ := relTup rx
    refine .inl ⟨p, vs, rfl, .inr (SqT.of hs), ?_⟩
    rw [← rs.length]; exact same_w o hq mkInt
  | ref r =>
    simp only [gLen] at hf
    cases e : W.η.get r with
    | none => rw [e] at hf; cases hf
    | some c =>
      rw [e] at hf
      have go : ∀ {l : List D}, W.η.list r = some l → some (D.int (Int.ofNat l.length), W.η) = some (d, η') → (∃ p ys, [v] = [V.ref p] ∧ (SqL X.K W.H p ys ∨ SqT X.K W.H p ys) ∧ Q (.int ys.length) W.H) ∨ (∃ z, [v] = [V.str z] ∧ z.length ≤ sizeLine ∧ Q (.int z.length) W.H) := fun {l} hl hf => by
        simp only [Option.some.injEq, Prod.mk.injEq] at hf
        obtain ⟨rfl, rfl⟩ := hf
        obtain ⟨vs, g1, g2, g3⟩ := list_of o hl
        rw [relRef rx]
        refine .inl ⟨_, vs, rfl, .inl g1, ?_⟩
        rw [← g2.length]; exact same_w o hq mkInt
      cases c with
      | lst l => exact go (by unfold Hd.list; rw [e]) hf
      | frz l => exact go (by unfold Hd.list; rw [e]) hf
      | _ => cases hf
  | str z =>
    simp only [gLen] at hf
    cases e : Nat.ble z.length line with
    | false => rw [e] at hf; cases hf
    | true =>
      rw [e] at hf
      simp only [Option.some.injEq, Prod.mk.injEq] at hf
      obtain ⟨rfl, rfl⟩ := hf
      rw [relStr rx]
      exact .inr ⟨z, rfl, Nat.le_of_ble_eq_true e, same_w o hq mkInt⟩
  | _ => cases hf
def gAbs (d : D) (η : Hd) : Option (D × Hd) := match d with
  | .int i => some (.int (if i < 0 then -i else i), η)
  | _ => none
theorem blt_abs : CallR X (.builtin "abs") (rN X.K N (f1 gAbs)) := CallR.imp call_abs fun xs H Q q => by
  obtain ⟨W, ds, d, η', rfl, o, rs, hf, hq⟩ := q
  obtain ⟨x, rfl, hg⟩ := f1_inv hf
  clear hf
  have hf := hg
  clear hg
  obtain ⟨v, rfl, rx⟩ := rel1 rs
  cases x with
  | int i =>
    simp only [gAbs, Option.some.injEq, Prod.mk.injEq] at hf
    obtain ⟨rfl, rfl⟩ := hf
    rw [relInt rx]
    exact ⟨i, rfl, same_w o hq mkInt⟩
  | _ => cases hf
def gInt (d : D) (η : Hd) : Option (D × Hd) := match d with
  | .int i => some (.int i, η)
  | .bl true => some (.int 1, η)
  | .bl false => some (.int 0, η)
  | _ => none
theorem ty_int : CallR X (.type "int") (rN X.K N (f1 gInt)) := CallR.imp call_int1 fun xs H Q q => by
  obtain ⟨W, ds, d, η', rfl, o, rs, hf, hq⟩ := q
  obtain ⟨x, rfl, hg⟩ := f1_inv hf
  clear hf
  have hf := hg
  clear hg
  obtain ⟨v, rfl, rx⟩ := rel1 rs
  cases x with
  | int i =>
    simp only [gInt, Option.some.injEq, Prod.mk.injEq] at hf
    obtain ⟨rfl, rfl⟩ := hf
    rw [relInt rx]
    exact .inl ⟨i, rfl, same_w o hq mkInt⟩
  | bl b =>
    rw [relBl rx]
    cases b with
    | true =>
      simp only [gInt, Option.some.injEq, Prod.mk.injEq] at hf
      obtain ⟨rfl, rfl⟩ := hf
      exact .inr ⟨true, rfl, same_w o hq mkInt⟩
    | false =>
      simp only [gInt, Option.some.injEq, Prod.mk.injEq] at hf
      obtain ⟨rfl, rfl⟩ := hf
      exact .inr ⟨false, rfl, same_w o hq mkInt⟩
  | _ => cases hf
/-- tuple(x), list(x) of a list, a tuple -/
def gTuple (d : D) (η : Hd) : Option (D × Hd) := match d with
  | .tup l => some (.tup l, η)
  | .ref r => match η.list r with
    | some l => some (.tup l, η)
    | none => none
  | _ => none
theorem ty_tuple : CallR X (.type "tuple") (rN X.K N (f1 gTuple)) := CallR.imp call_tuple_of fun xs H Q q => by
  obtain ⟨W, ds, d, η', rfl, o, rs, hf, hq⟩ := q
  obtain ⟨x, rfl, hg⟩ := f1_inv hf
  clear hf
  have hf := hg
  clear hg
  obtain ⟨v, rfl, rx⟩ := rel1 rs
  cases x with
  | tup l =>
    simp only [gTuple, Option.some.injEq, Prod.mk.injEq] at hf
    obtain ⟨rfl, rfl⟩ := hf
    obtain ⟨p, vs, rfl, hs, rs⟩ := relTup rx
    exact ⟨p, vs, rfl, .inr ⟨SqT.of hs, same_w o hq (mkTup hs rs)⟩⟩
  | ref r =>
    simp only [gTuple] at hf
    cases e : W.η.list r with
    | none => rw [e] at hf; cases hf
    | some l =>
      rw [e] at hf
      simp only [Option.some.injEq, Prod.mk.injEq] at hf
      obtain ⟨rfl, rfl⟩ := hf
      obtain ⟨vs, g1, g2, g3⟩ := list_of o e
      rw [relRef rx]
      exact ⟨_, vs, rfl, .inl ⟨g1, fun p hp => new_tup o hq hp g2⟩⟩
  | _ => cases hf
def gList (d : D) (η : Hd) : Option (D × Hd) := match d with
  | .tup l => match Nat.ble l.length line with
    | true => some (.ref η.nx, η.new (.lst l))
    | false => none
  | .ref r => match η.list r with
    | some l => some (.ref η.nx, η.new (.lst l))
    | none => none
  | _ => none
theorem ty_list : CallR X (.type "list") (rN X.K N (f1 gList)) := CallR.imp call_list_of fun xs H Q q => by
  obtain ⟨W, ds, d, η', rfl, o, rs, hf, hq⟩ := q
  obtain ⟨x, rfl, hg⟩ := f1_inv hf
  clear hf
  have hf := hg
  clear hg
  obtain ⟨v, rfl, rx⟩ := rel1 rs
  cases x with
  | tup l =>
    simp only [gList] at hf
    cases e : Nat.ble l.length line with
    | false => rw [e] at hf; cases hf
    | true =>
      rw [e] at hf
      simp only [Option.some.injEq, Prod.mk.injEq] at hf
      obtain ⟨rfl, rfl⟩ := hf
      obtain ⟨p, vs, rfl, hs, rs⟩ := relTup rx
      exact ⟨p, vs, rfl, .inr (SqT.of hs), fun p hp => new_lst o hq hp rs (Nat.le_of_ble_eq_true e)⟩
  | ref r =>
    simp only [gList] at hf
    cases e : W.η.list r with
    | none => rw [e] at hf; cases hf
    | some l =>
      rw [e] at hf
      simp only [Option.some.injEq, Prod.mk.injEq] at hf
      obtain ⟨rfl, rfl⟩ := hf
      obtain ⟨vs, g1, g2, g3⟩ := list_of o e
      rw [relRef rx]
      exact ⟨_, vs, rfl, .inl g1, fun p hp => new_lst o hq hp g2 g3⟩
  | _ => cases hf

/-! ### methods of lists -/
abbrev FM := D → List D → Hd → Option (D × Hd)
def rM (K : PySem.W.Frag) (N : Nm) (f : FM) : V → List V → Hp → VK → Prop := fun x xs H Q => ∃ W dx ds d η', W.H = H ∧ W.Ok K N.toNames ∧ RelD W dx x ∧ RelDs W ds xs ∧ f dx ds W.η = some (d, η') ∧
  (∀ W' v, Ext W W' → W'.Ok K N.toNames → W'.η = η' → RelD W' d v → Q v W'.H)
def isL (η : Hd) : D → Bool
  | .ref r => (η.list r).isSome
  | _ => false
def cMt (f : FM) (o : CE) (a : CA) : CE := fun σ η kv kx => o σ η (fun x η1 => match isL η1 x with
  | true => a σ η1 (fun ds η2 => match f x ds η2 with
    | some (d, η3) => kv d η3
    | none => false) kx
  | false => false) kx
theorem MtR.imp {id : String} {r r' : V → List V → Hp → VK → Prop} (h : MtR X id r) (i : ∀ x xs H Q, r' x xs H Q → r x xs H Q) : MtR X id r' :=
  fun pins s σ H x xs v us Q I rx rxs q => h pins s σ H x xs v us Q I rx rxs (i x xs H Q q)
theorem isL_ty {K : PySem.W.Frag} {W : Wl} {d : D} {v : V} (o : W.Ok K N.toNames) (r : RelD W d v) (h : isL W.η d = true) : tyV K "list" v W.H := by
  cases d with
  | ref q =>
    simp only [isL] at h
    obtain ⟨l, e⟩ := Option.isSome_iff_exists.mp h
    obtain ⟨vs, g1, g2, g3⟩ := list_of o e
    rw [relRef r]
    exact .inl ⟨rfl, vs, g1⟩
  | _ => cases h
theorem tBM_of {f : FM} {co : CE} {c : CA} {K : PySem.W.Frag} {σ : St} {H : Hp} {Q : VK} (h : tE K N E (cMt f co c) σ H Q) : tBM K "list" (rM K N f) (tE K N E co) (tAr K N E c) σ H Q := by
  obtain ⟨W, σd, kv, kx, rfl, o, s, h, hv, hx⟩ := h
  refine tE.bind o s hx h fun W1 d v x1 o1 r1 s1 hx1 h1 => ?_
  cases el : isL W1.η d with
  | false => rw [el] at h1; cases h1
  | true =>
    rw [el] at h1
    refine ⟨isL_ty o1 r1 el, ?_⟩
    refine tAr.bind o1 s1 hx1 h1 fun W2 ds vs x2 o2 r2 s2 hx2 h2 => ?_
    cases e : f d ds W2.η with
    | none => rw [e] at h2; cases h2
    | some p =>
      obtain ⟨d', η'⟩ := p
      rw [e] at h2
      exact ⟨W2, d, ds, d', η', rfl, o2, r1.mono o1 x2, r2, e, fun W' v x3 o3 e3 r3 => hv W' d' v ((x1.trans o o1 x2).trans o o2 x3) o3 r3 (by rw [e3]; exact h2)⟩
/-- a list's cell changed -/
theorem put_lst {K : PySem.W.Frag} {W : Wl} {Q : VK} {r : Nat} {l l' : List D} {vs' : List V} {d : D} {v : V} (o : W.Ok K N.toNames) (e : W.η.get r = some (.lst l))
    (q : ∀ W' v, Ext W W' → W'.Ok K N.toNames → W'.η = W.η.set r (.lst l') → RelD W' d v → Q v W'.H) (rl : RelDs W l' vs') (hl : l'.length ≤ sizeLine) (rd : RelD W d v) : Q v (upd W.H (W.μ r) (.lst vs')) := by
  obtain ⟨x, o'⟩ := o.put (c := .lst l') (ob := .lst vs') e rfl (fun x => ⟨vs', upd_same, rl.mono o x, hl⟩)
  exact q (W.put r (.lst l') (.lst vs')) v x o' rfl (rd.mono o x)
def fAppend : FM := fun x ds η => match x, ds with
  | .ref r, [d] => match η.get r with
    | some (.lst l) => match Nat.blt l.length line with
      | true => some (.non, η.set r (.lst (l ++ [d])))
      | false => none
    | _ => none
  | _, _ => none
theorem mtd_append : MtR X "list.append" (rM X.K N fAppend) := MtR.imp mt_append fun x xs H Q q => by
  obtain ⟨W, dx, ds, d, η', rfl, o, rx, rs, hf, hq⟩ := q
  cases dx with
  | ref r =>
    match ds, rs, hf with
    | [y], rs, hf =>
      obtain ⟨v, rfl, ry⟩ := rel1 rs
      simp only [fAppend] at hf
      cases e : W.η.get r with
      | none => rw [e] at hf; cases hf
      | some c =>
        rw [e] at hf
        cases c with
        | lst l =>
          simp only at hf
          cases eb : Nat.blt l.length line with
          | false => rw [eb] at hf; cases hf
          | true =>
            rw [eb] at hf
            simp only [Option.some.injEq, Prod.mk.injEq] at hf
            obtain ⟨rfl, rfl⟩ := hf
            obtain ⟨vs, g1, g2, g3⟩ := o.cell r _ e
            have hb : l.length < sizeLine := Nat.le_of_ble_eq_true eb
            rw [relRef rx]
            refine ⟨_, vs, v, rfl, rfl, g1, by rw [← g2.length]; exact hb, ?_⟩
            exact put_lst o e hq (g2.append (.cons ry .nil)) (by rw [List.length_append]; show l.length + 1 ≤ sizeLine; omega) mkNon
        | _ => cases hf
    | [], rs, hf => cases hf
    | _ :: _ :: _, rs, hf => cases hf
  | _ => cases hf
def fPop : FM := fun x ds η => match x, ds with
  | .ref r, [] => match η.get r with
    | some (.lst l) => match l[l.length - 1]? with
      | some d => some (d, η.set r (.lst l.dropLast))
      | none => none
    | _ => none
  | _, _ => none
theorem RelDs.dropLast {W : Wl} {ds : List D} {vs : List V} (h : RelDs W ds vs) : RelDs W ds.dropLast vs.dropLast := by
  rw [List.dropLast_eq_take, List.dropLast_eq_take, h.length]; exact h.take _
theorem mtd_pop : MtR X "list.pop" (rM X.K N fPop) := MtR.imp mt_pop fun x xs H Q q => by
  obtain ⟨W, dx, ds, d, η', rfl, o, rx, rs, hf, hq⟩ := q
  cases dx with
  | ref r =>
    match ds, rs, hf with
    | [], rs, hf =>
      rw [RelDs] at rs; subst rs
      simp only [fPop] at hf
      cases e : W.η.get r with
      | none => rw [e] at hf; cases hf
      | some c =>
        rw [e] at hf
        cases c with
        | lst l =>
          simp only at hf
          cases eb : l[l.length - 1]? with
          | none => rw [eb] at hf; cases hf
          | some y =>
            rw [eb] at hf
            simp only [Option.some.injEq, Prod.mk.injEq] at hf
            obtain ⟨rfl, rfl⟩ := hf
            obtain ⟨vs, g1, g2, g3⟩ := o.cell r _ e
            obtain ⟨v, ev, rv⟩ := g2.get' eb
            rw [relRef rx]
            refine ⟨_, vs, v, rfl, rfl, g1, by rw [← g2.length]; exact ev, ?_⟩
            exact put_lst o e hq g2.dropLast (by rw [List.length_dropLast]; omega) rv
        | _ => cases hf
    | _ :: _, rs, hf => cases hf
  | _ => cases hf
def ixD (n : Nat) : Int → Option Nat
  | .ofNat k => match Nat.blt k n with
    | true => some k
    | false => none
  | .negSucc k => match Nat.ble (k + 1) n with
    | true => some (n - (k + 1))
    | false => none
theorem ixD_seq {n : Nat} {i : Int} {k : Nat} (hn : n ≤ sizeLine) (h : ixD n i = some k) : seqIndex? i n = some k ∧ -2 ^ 63 ≤ i ∧ i < 2 ^ 63 ∧ k < n := by
  have hs : sizeLine = 16777216 := rfl
  cases i with
  | ofNat j =>
    simp only [ixD] at h
    cases e : Nat.blt j n with
    | false => rw [e] at h; cases h
    | true =>
      rw [e] at h
      have ek : j = k := Option.some.inj h
      subst ek
      have hb : j < n := Nat.le_of_ble_eq_true e
      have e1 : Int.ofNat j = (j : Int) := rfl
      refine ⟨?_, by rw [e1]; omega, by rw [e1]; omega, hb⟩
      unfold seqIndex?
      rw [e1]
      simp only [show ¬ ((j : Int) < 0) from by omega, if_false]
      rw [if_pos (by simp; omega)]
      simp
  | negSucc j =>
    simp only [ixD] at h
    cases e : Nat.ble (j + 1) n with
    | false => rw [e] at h; cases h
    | true =>
      rw [e] at h; cases h
      have hb : j + 1 ≤ n := Nat.le_of_ble_eq_true e
      have e1 : Int.negSucc j = -((j + 1 : Nat) : Int) := rfl
      refine ⟨?_, by rw [e1]; omega, by rw [e1]; omega, by omega⟩
      unfold seqIndex?
      rw [e1]
      simp only [show (-((j + 1 : Nat) : Int) < 0) from by omega, if_true]
      rw [if_pos (by simp; omega)]
      congr 1; omega
def fPopAt : FM := fun x ds η => match x, ds with
  | .ref r, [.int i] => match η.get r with
    | some (.lst l) => match ixD l.length i with
      | some k => match l[k]? with
        | some d => some (d, η.set r (.lst (l.eraseIdx k)))
        | none => none
      | none => none
    | _ => none
  | _, _ => none
theorem RelDs.erase {W : Wl} : ∀ {ds : List D} {vs : List V} (k : Nat), RelDs W ds vs → RelDs W (ds.eraseIdx k) (vs.eraseIdx k)
  | [], _, _, h => by rw [RelDs] at h; subst h; exact .nil
  | d :: ds, _, 0, h => by
    rw [RelDs] at h
    obtain ⟨v', vs', rfl, h1, h3⟩ := h
    exact h3
  | d :: ds, _, n + 1, h => by
    rw [RelDs] at h
    obtain ⟨v', vs', rfl, h1, h3⟩ := h
    exact RelDs.cons h1 (RelDs.erase n h3)
theorem mtd_popAt : MtR X "list.pop" (rM X.K N fPopAt) := MtR.imp mt_popAt fun x xs H Q q => by
  obtain ⟨W, dx, ds, d, η', rfl, o, rx, rs, hf, hq⟩ := q
  cases dx with
  | ref r =>
    match ds, rs, hf with
    | [.int i], rs, hf =>
      obtain ⟨v, rfl, ry⟩ := rel1 rs
      rw [relInt ry]
      simp only [fPopAt] at hf
      cases e : W.η.get r with
      | none => rw [e] at hf; cases hf
      | some c =>
        rw [e] at hf
        cases c with
        | lst l =>
          simp only at hf
          cases ek : ixD l.length i with
          | none => rw [ek] at hf; cases hf
          | some k =>
            rw [ek] at hf
            simp only at hf
            cases eb : l[k]? with
            | none => rw [eb] at hf; cases hf
            | some y =>
              rw [eb] at hf
              simp only [Option.some.injEq, Prod.mk.injEq] at hf
              obtain ⟨rfl, rfl⟩ := hf
              obtain ⟨vs, g1, g2, g3⟩ := o.cell r _ e
              obtain ⟨w, ev, rv⟩ := g2.get' eb
              obtain ⟨i1, i2, i3, i4⟩ := ixD_seq g3 ek
              rw [relRef rx]
              refine ⟨_, vs, i, k, w, rfl, rfl, g1, i2, i3, by rw [← g2.length]; exact i1, ev, ?_⟩
              exact put_lst o e hq (g2.erase k) (by rw [List.length_eraseIdx]; split <;> omega) rv
        | _ => cases hf
    | [], rs, hf => cases hf
    | [.non], rs, hf => cases hf
    | [.bl _], rs, hf => cases hf
    | [.str _], rs, hf => cases hf
    | [.tup _], rs, hf => cases hf
    | [.ref _], rs, hf => cases hf
    | _ :: _ :: _, rs, hf => simp [fPopAt] at hf
  | _ => cases hf
/-- l.index(x): pure data -/
def idxOf (f : D → Bool) : List D → Nat → Option Nat
  | [], _ => none
  | x :: xs, n => match f x with
    | true => some n
    | false => idxOf f xs (Nat.succ n)
def fIndex : FM := fun x ds η => match x, ds with
  | .ref r, [d] => match η.list r with
    | some l => match pur 8 d, purs 8 l with
      | true, true => match idxOf (fun z => eqn 8 z d) l 0 with
        | some k => some (.int (Int.ofNat k), η)
        | none => none
      | _, _ => none
    | none => none
  | _, _ => none
theorem toPys_map : ∀ l : List D, toPys l = l.map toPy
  | [] => by simp [toPys]
  | x :: xs => by simp [toPys, toPys_map xs]
theorem idxOf_spec {f : D → Bool} : ∀ {l : List D} {n k : Nat}, idxOf f l n = some k → ∃ j, k = n + j ∧ (∃ z, l[j]? = some z ∧ f z = true) ∧ ∀ m z, m < j → l[m]? = some z → f z = false
  | [], n, k, h => by cases h
  | x :: xs, n, k, h => by
    simp only [idxOf] at h
    cases e : f x with
    | true => rw [e] at h; cases h; exact ⟨0, rfl, ⟨x, rfl, e⟩, fun m z hm => absurd hm (by omega)⟩
    | false =>
      rw [e] at h
      obtain ⟨j, h1, ⟨z, h2, h3⟩, h4⟩ := idxOf_spec h
      refine ⟨j + 1, by omega, ⟨z, by simpa using h2, h3⟩, fun m z' hm hz => ?_⟩
      cases m with
      | zero => simp at hz; subst hz; exact e
      | succ m => exact h4 m z' (by omega) (by simpa using hz)
theorem mtd_index (hu : X.A.units + 65 < cLine) : MtR X "list.index" (rM X.K N fIndex) := MtR.imp (mt_indexD hu) fun x xs H Q q => by
  obtain ⟨W, dx, ds, d, η', rfl, o, rx, rs, hf, hq⟩ := q
  cases dx with
  | ref r =>
    match ds, rs, hf with
    | [y], rs, hf =>
      obtain ⟨v, rfl, ry⟩ := rel1 rs
      simp only [fIndex] at hf
      cases e : W.η.list r with
      | none => rw [e] at hf; cases hf
      | some l =>
        rw [e] at hf
        simp only at hf
        cases ex : pur 8 y with
        | false => rw [ex] at hf; cases hf
        | true =>
          cases ey : purs 8 l with
          | false => rw [ex, ey] at hf; cases hf
          | true =>
            rw [ex, ey] at hf
            simp only at hf
            cases ei : idxOf (fun z => eqn 8 z y) l 0 with
            | none => rw [ei] at hf; cases hf
            | some k =>
              rw [ei] at hf
              simp only [Option.some.injEq, Prod.mk.injEq] at hf
              obtain ⟨rfl, rfl⟩ := hf
              obtain ⟨j, h1, ⟨z, h2, h3⟩, h4⟩ := idxOf_spec ei
              obtain ⟨vs, g1, g2, g3⟩ := list_of o e
              obtain ⟨a1, a2, a3⟩ := purs_dp (K := X.K) 8 l vs ey g2
              obtain ⟨b1, b2, b3⟩ := pur_dp (K := X.K) 8 y v ex ry
              have ep : ∀ z ∈ l, pur 8 z = true := fun z hz => List.all_eq_true.mp ey z hz
              have hj : k = j := by omega
              subst hj
              rw [relRef rx]
              refine ⟨_, v, toPy y, toPys l, k, toPy z, rfl, rfl, .lst g1 a1, b1, shaped_of (by simpa [PyData.canLay0] using a2) (by simp only [PyData.depth]; omega), shaped_of b2 (by omega), ?_, ?_, fun m z' hm hz => ?_, same_w o hq mkInt⟩
              · rw [toPys_map, List.getElem?_map, h2]; rfl
              · rw [← eqn_py 8 z y (ep z (List.mem_of_getElem? h2)) ex]; exact h3
              · rw [toPys_map, List.getElem?_map] at hz
                cases el : l[m]? with
                | none => rw [el] at hz; cases hz
                | some u =>
                  rw [el] at hz
                  cases hz
                  rw [← eqn_py 8 u y (ep u (List.mem_of_getElem? el)) ex]; exact h4 m u hm el
    | [], rs, hf => cases hf
    | _ :: _ :: _, rs, hf => cases hf
  | _ => cases hf
end
end DL

/-! cells frozen, dropped and laid again -/
namespace DL
open PySem PySem.Spec L2
section
variable {K : PySem.W.Frag} {N : Names} {W W1 W2 Wg : Wl}
/-! ### what a value's relation leans on -/
structure Tx (W W' : Wl) : Prop where
  nx : W.η.nx ≤ W'.η.nx
  mu : ∀ r, r < W.η.nx → W'.μ r = W.μ r
  tp : ∀ a vs, W.H a = some (.tup vs) → W'.H a = some (.tup vs)
theorem Ext.tx (o : W.Ok K N) (x : Ext W W1) : Tx W W1 := ⟨x.nx, x.mu, fun a vs h => x.sqT o h⟩
mutual
theorem RelD.tx (x : Tx W W1) : ∀ {d : D} {v : V}, RelD W d v → RelD W1 d v
  | .non, v, h => by rw [RelD] at *; exact h
  | .bl b, v, h => by rw [RelD] at *; exact h
  | .int i, v, h => by rw [RelD] at *; exact h
  | .str s, v, h => by rw [RelD] at *; exact h
  | .ref r, v, h => by rw [RelD] at *; exact ⟨Nat.lt_of_lt_of_le h.1 x.nx, by rw [x.mu r h.1]; exact h.2⟩
  | .tup ds, v, h => by
    rw [RelD] at *
    obtain ⟨a, vs, e, h1, h2⟩ := h
    exact ⟨a, vs, e, x.tp a vs h1, RelDs.tx x h2⟩
theorem RelDs.tx (x : Tx W W1) : ∀ {ds : List D} {vs : List V}, RelDs W ds vs → RelDs W1 ds vs
  | [], vs, h => by rw [RelDs] at *; exact h
  | d :: ds, vs, h => by
    rw [RelDs] at *
    obtain ⟨v, vs', e, h1, h2⟩ := h
    exact ⟨v, vs', e, RelD.tx x h1, RelDs.tx x h2⟩
end
theorem RelFs.tx (x : Tx W W1) : ∀ {fs : List (Nat × D)} {gs : List (Str × V)}, RelFs W N fs gs → RelFs W1 N fs gs
  | [], vs, h => by rw [RelFs] at *; exact h
  | (k, d) :: ds, vs, h => by
    rw [RelFs] at *
    obtain ⟨v, vs', e, h1, h2⟩ := h
    exact ⟨v, vs', e, RelD.tx x h1, RelFs.tx x h2⟩
theorem RelK.tx (x : Tx W W1) : ∀ {fs : List (D × D)} {gs : List (Key × V)}, RelK W fs gs → RelK W1 fs gs
  | [], vs, h => by rw [RelK] at *; exact h
  | (k, d) :: ds, vs, h => by
    rw [RelK] at *
    obtain ⟨k', v, vs', e, h0, h1, h2⟩ := h
    exact ⟨k', v, vs', e, h0, RelD.tx x h1, RelK.tx x h2⟩
theorem RelT.tx (x : Tx W W1) : ∀ {fs : List (D × D)} {gs : List (List Key × V)}, RelT W fs gs → RelT W1 fs gs
  | [], vs, h => by rw [RelT] at *; exact h
  | (k, d) :: ds, vs, h => by
    rw [RelT] at *
    obtain ⟨k', v, vs', e, h0, h1, h2⟩ := h
    exact ⟨k', v, vs', e, h0, RelD.tx x h1, RelT.tx x h2⟩
theorem RelC.tx (x : Tx W W1) {a : Addr} {c : Cell} (h : RelC K N W a c) (e : ∀ ob, noT ob → W.H a = some ob → W1.H a = some ob) : RelC K N W1 a c := by
  cases c with
  | lst l => obtain ⟨vs, h1, h2, h3⟩ := h; exact ⟨vs, e _ (fun _ z => nomatch z) h1, h2.tx x, h3⟩
  | frz l => obtain ⟨vs, h1, h2, h3⟩ := h; exact ⟨vs, e _ (fun _ z => nomatch z) h1, h2.tx x, h3⟩
  | dice => obtain ⟨p, q, r, h⟩ := h; exact ⟨p, q, r, e _ (fun _ z => nomatch z) h⟩
  | dct t l =>
    cases t
    · obtain ⟨vs, h1, h2, h3⟩ := h; exact ⟨vs, e _ (fun _ z => nomatch z) h1, h2.tx x, h3⟩
    · obtain ⟨vs, h1, h2, h3⟩ := h; exact ⟨vs, e _ (fun _ z => nomatch z) h1, h2.tx x, h3⟩
  | ins c l => obtain ⟨dx, vs, h1, h2, h3⟩ := h; exact ⟨dx, vs, e _ (fun _ z => nomatch z) h1, h2.tx x, h3⟩
/-! ### a cell dropped and laid again -/
def Hd.add (η : Hd) (g : Nat) (c : Cell) : Hd := ⟨η.nx, (g, c) :: η.cs⟩
theorem Hd.get_add (η : Hd) (g : Nat) (c : Cell) (q : Nat) : (η.add g c).get q = if q = g then some c else η.get q := by
  unfold Hd.get Hd.add
  by_cases h : q = g
  · subst h
    have e2 : Nat.beq q q = true := Nat.beq_refl _
    simp [look, e2]
  · have e2 : Nat.beq g q = false := by
      cases z : Nat.beq g q with
      | false => rfl
      | true => exact absurd (Nat.eq_of_beq_eq_true z).symm h
    simp [look, e2, h]
/-- W is Wg without the cell g; behind a step the cell is laid again -/
theorem Wl.Ok.readd (o : Wg.Ok K N) {g : Nat} {c : Cell} (h : Wg.η.get g = some c) {η0 : Hd} (hn : η0.nx = Wg.η.nx) (h0 : ∀ q, η0.get q = if q = g then none else Wg.η.get q)
    (x : Ext ⟨Wg.μ, η0, Wg.H⟩ W2) (o2 : W2.Ok K N) : Ext Wg ⟨W2.μ, W2.η.add g c, W2.H⟩ ∧ Wl.Ok K N ⟨W2.μ, W2.η.add g c, W2.H⟩ := by
  have hg : g < Wg.η.nx := o.lt g c h
  have nx : Wg.η.nx ≤ W2.η.nx := by have := x.nx; show Wg.η.nx ≤ _; rw [← hn]; exact this
  have mu : ∀ r, r < Wg.η.nx → W2.μ r = Wg.μ r := fun r hr => x.mu r (by show r < η0.nx; rw [hn]; exact hr)
  have keep : ∀ ob, noT ob → Wg.H (Wg.μ g) = some ob → W2.H (Wg.μ g) = some ob := fun ob ht hb => x.fr _ _ hb ht fun q d e md => by
    have e' : η0.get q = some d := e
    rw [h0] at e'
    by_cases z : q = g
    · rw [if_pos z] at e'; cases e'
    · rw [if_neg z] at e'; exact o.apart h e' z
  have ga : ∀ q, (W2.η.add g c).get q = if q = g then some c else W2.η.get q := fun q => Hd.get_add _ _ _ _
  have xx : Ext Wg ⟨W2.μ, W2.η.add g c, W2.H⟩ := by
    refine ⟨nx, mu, fun a u ha ht hna => ?_, fun a u ha => x.th a u ha, fun q d e => ?_⟩
    · exact x.fr a u ha ht fun q d e md => by
        have e' : η0.get q = some d := e
        rw [h0] at e'
        by_cases z : q = g
        · rw [if_pos z] at e'; cases e'
        · rw [if_neg z] at e'; exact hna q d e' md
    · have e' : (W2.η.add g c).get q = some d := e
      rw [ga] at e'
      by_cases z : q = g
      · rw [if_pos z] at e'; cases e'; exact .inl ⟨c, by rw [z]; exact h, id⟩
      · rw [if_neg z] at e'
        rcases x.cs q d e' with ⟨c0, e0, m0⟩ | ⟨h1, h2⟩
        · have e0' : η0.get q = some c0 := e0
          rw [h0, if_neg z] at e0'
          exact .inl ⟨c0, e0', m0⟩
        · exact .inr ⟨by have : η0.nx ≤ q := h1; omega, h2⟩
  have tg : Tx Wg ⟨W2.μ, W2.η.add g c, W2.H⟩ := xx.tx o
  have t2 : Tx W2 ⟨W2.μ, W2.η.add g c, W2.H⟩ := ⟨Nat.le_refl _, fun _ _ => rfl, fun _ _ e => e⟩
  have ap : ∀ q d, W2.η.get q = some d → q ≠ g → W2.μ q ≠ Wg.μ g := fun q d e y z => by
    rcases x.cs q d e with ⟨c0, e0, m0⟩ | ⟨h1, h2⟩
    · have e0' : η0.get q = some c0 := e0
      rw [h0, if_neg y] at e0'
      rw [mu q (o.lt q c0 e0')] at z
      exact o.apart h e0' y z
    · obtain ⟨ob, hob, ht⟩ := o.there h
      have h2' : NoC Wg.H (W2.μ q) := h2
      rw [z] at h2'; exact h2' ob hob ht
  refine ⟨xx, fun q d e => ?_, fun q d e => ?_, fun q s d1 d2 e1 e2 e => ?_, o2.tab⟩
  · have e' : (W2.η.add g c).get q = some d := e
    rw [ga] at e'
    show q < W2.η.nx
    by_cases z : q = g
    · omega
    · rw [if_neg z] at e'; exact o2.lt q d e'
  · have e' : (W2.η.add g c).get q = some d := e
    rw [ga] at e'
    by_cases z : q = g
    · rw [if_pos z] at e'; cases e'
      show RelC K N _ (W2.μ q) c
      rw [z, mu g hg]
      exact (o.cell g c h).tx tg keep
    · rw [if_neg z] at e'; exact (o2.cell q d e').tx t2 (fun _ _ e => e)
  · have e1' : (W2.η.add g c).get q = some d1 := e1
    have e2' : (W2.η.add g c).get s = some d2 := e2
    have e' : W2.μ q = W2.μ s := e
    rw [ga] at e1' e2'
    by_cases z : q = g
    · by_cases y : s = g
      · exact z.trans y.symm
      · rw [if_neg y] at e2'
        rw [z, mu g hg] at e'
        exact absurd e'.symm (ap s d2 e2' y)
    · rw [if_neg z] at e1'
      by_cases y : s = g
      · rw [y, mu g hg] at e'
        exact absurd e' (ap q d1 e1' z)
      · rw [if_neg y] at e2'
        exact o2.inj q s d1 d2 e1' e2' e'
/-! ### freeze -/
def frzAt (r : Nat) (l : List D) (η : Hd) : Hd := η.set r (.frz l)
def unfAt (r : Nat) (l : List D) (η : Hd) : Hd := η.set r (.lst l)
theorem Wl.Ok.freeze (o : W.Ok K N) {r : Nat} {l : List D} (h : W.η.get r = some (.lst l)) : Ext W ⟨W.μ, frzAt r l W.η, W.H⟩ ∧ Wl.Ok K N ⟨W.μ, frzAt r l W.η, W.H⟩ := by
  have gs : ∀ q, (frzAt r l W.η).get q = if q = r then some (.frz l) else W.η.get q := fun q => by
    have := Hd.get_set W.η r (.frz l) q
    rw [h] at this
    exact this
  have x : Ext W ⟨W.μ, frzAt r l W.η, W.H⟩ := by
    refine ⟨Nat.le_refl _, fun _ _ => rfl, fun _ _ e _ _ => e, fun a u e t => ⟨u, e, t⟩, fun q c e => ?_⟩
    have e' : (frzAt r l W.η).get q = some c := e
    rw [gs] at e'
    by_cases z : q = r
    · rw [if_pos z] at e'; cases e'; exact .inl ⟨.lst l, by rw [z]; exact h, fun m => by cases m⟩
    · rw [if_neg z] at e'; exact .inl ⟨c, e', id⟩
  have orig : ∀ q c, (frzAt r l W.η).get q = some c → ∃ c0, W.η.get q = some c0 := fun q c e => by
    rw [gs] at e
    by_cases z : q = r
    · exact ⟨_, by rw [z]; exact h⟩
    · rw [if_neg z] at e; exact ⟨c, e⟩
  refine ⟨x, fun q c e => ?_, fun q c e => ?_, fun q s c d e1 e2 e => ?_, o.tab⟩
  · obtain ⟨c0, e0⟩ := orig q c e; exact o.lt q c0 e0
  · have e' : (frzAt r l W.η).get q = some c := e
    rw [gs] at e'
    by_cases z : q = r
    · rw [if_pos z] at e'; cases e'
      obtain ⟨vs, h1, h2, h3⟩ := o.cell r _ h
      exact ⟨vs, by rw [z]; exact h1, h2.mono o x, h3⟩
    · rw [if_neg z] at e'; exact (o.cell q c e').mono o x (fun _ _ e => e)
  · obtain ⟨c0, e0⟩ := orig q c e1
    obtain ⟨d0, f0⟩ := orig s d e2
    exact o.inj q s c0 d0 e0 f0 e
theorem Wl.Ok.unfreeze (o : W.Ok K N) {r : Nat} {l : List D} (h : W.η.get r = some (.lst l)) (x1 : Ext ⟨W.μ, frzAt r l W.η, W.H⟩ W1) (o1 : W1.Ok K N) : Ext W ⟨W1.μ, unfAt r l W1.η, W1.H⟩ ∧ Wl.Ok K N ⟨W1.μ, unfAt r l W1.η, W1.H⟩ := by
  obtain ⟨xf, of⟩ := o.freeze h
  have x01 : Ext W W1 := xf.trans o of x1
  have hr : r < W.η.nx := o.lt r _ h
  have hm : W1.μ r = W.μ r := x01.mu r hr
  obtain ⟨vs, h1, h2, h3⟩ := o.cell r _ h
  have gf : ∀ q, (frzAt r l W.η).get q = if q = r then some (.frz l) else W.η.get q := fun q => by
    have := Hd.get_set W.η r (.frz l) q
    rw [h] at this
    exact this
  have hH : W1.H (W.μ r) = some (.lst vs) := x1.fr _ _ h1 (fun _ z => nomatch z) fun q c e m z => by
    have e' : (frzAt r l W.η).get q = some c := e
    rw [gf] at e'
    by_cases y : q = r
    · rw [if_pos y] at e'; cases e'; cases m
    · rw [if_neg y] at e'
      exact o.apart h e' y z
  have gs : ∀ q, (unfAt r l W1.η).get q = if q = r then (W1.η.get r).map (fun _ => Cell.lst l) else W1.η.get q := fun q => Hd.get_set W1.η r (.lst l) q
  have x2 : Ext W ⟨W1.μ, unfAt r l W1.η, W1.H⟩ := by
    refine ⟨x01.nx, x01.mu, x01.fr, x01.th, fun q c e => ?_⟩
    have e' : (unfAt r l W1.η).get q = some c := e
    rw [gs] at e'
    by_cases z : q = r
    · exact .inl ⟨.lst l, by rw [z]; exact h, fun _ => rfl⟩
    · rw [if_neg z] at e'; exact x01.cs q c e'
  have t2 : Tx W1 ⟨W1.μ, unfAt r l W1.η, W1.H⟩ := ⟨Nat.le_refl _, fun _ _ => rfl, fun _ _ e => e⟩
  have orig : ∀ q c, (unfAt r l W1.η).get q = some c → ∃ c0, W1.η.get q = some c0 := fun q c e => by
    rw [gs] at e
    by_cases z : q = r
    · rw [if_pos z] at e
      cases y : W1.η.get r with
      | none => rw [y] at e; cases e
      | some c0 => exact ⟨c0, by rw [z]; exact y⟩
    · rw [if_neg z] at e; exact ⟨c, e⟩
  refine ⟨x2, fun q c e => ?_, fun q c e => ?_, fun q s c d e1 e2 e => ?_, o1.tab⟩
  · obtain ⟨c0, e0⟩ := orig q c e; exact o1.lt q c0 e0
  · have e' : (unfAt r l W1.η).get q = some c := e
    rw [gs] at e'
    by_cases z : q = r
    · rw [if_pos z] at e'
      cases y : W1.η.get r with
      | none => rw [y] at e'; cases e'
      | some c0 =>
        rw [y] at e'; cases e'
        refine ⟨vs, ?_, h2.mono o x2, h3⟩
        show W1.H (W1.μ q) = some (.lst vs)
        rw [z, hm]; exact hH
    · rw [if_neg z] at e'; exact (o1.cell q c e').tx t2 (fun _ _ e => e)
  · obtain ⟨c0, e0⟩ := orig q c e1
    obtain ⟨d0, f0⟩ := orig s d e2
    exact o1.inj q s c0 d0 e0 f0 e
end
end DL

/-! statements, loops -/
namespace DL
open PySem PySem.Spec L2
section
variable {X : Cx} {N : Nm} {E : XK}
/-! ### blocks -/
def sNil : CS := fun σ η k => k.nx σ η
def sSeq (a b : CS) : CS := fun σ η k => a σ η { k with nx := fun σ1 η1 => b σ1 η1 k }
theorem Sk.next {K : PySem.W.Frag} {W : Wl} {k : KS} {Z : Ends} {nx : SD → Hd → Bool} {Qn : St → Hp → Prop} (h : Sk K N E W k Z) (hn : ∀ W' σd σ, Ext W W' → W'.Ok K N.toNames → RelS W' σd σ → nx σd W'.η = true → Qn σ W'.H) : Sk K N E W { k with nx := nx } { Z with nx := Qn } :=
  ⟨hn, h.rt, h.bk, h.ct, h.xc⟩
theorem jb_nil : JB X N E [] sNil := PSs.imp pss_nil fun Z σ H q => by
  obtain ⟨W, σd, k, rfl, o, s, h, hk⟩ := q
  exact hk.nx W σd σ (Ext.refl W) o s h
theorem jb_cons {st : Stmt} {rest : List Stmt} {a b : CS} (h1 : JS X N E st a) (h2 : JB X N E rest b) : JB X N E (st :: rest) (sSeq a b) := PSs.imp (pss_cons h1 h2) fun Z σ H q => by
  obtain ⟨W, σd, k, rfl, o, s, h, hk⟩ := q
  exact ⟨W, σd, { k with nx := fun σ1 η1 => b σ1 η1 k }, rfl, o, s, h, hk.next fun W1 σd1 σ1 x1 o1 s1 e1 => ⟨W1, σd1, k, rfl, o1, s1, e1, hk.mono o o1 x1⟩⟩
theorem jb_one {st : Stmt} {a : CS} (h1 : JS X N E st a) : JB X N E [st] a := pss_one h1
def sPass : CS := fun σ η k => k.nx σ η
theorem js_pass {pos : Pos} : JS X N E (.Pass pos) sPass := PS.imp ps_pass fun Z σ H q => by
  obtain ⟨W, σd, k, rfl, o, s, h, hk⟩ := q
  exact hk.nx W σd σ (Ext.refl W) o s h
def sBreak : CS := fun σ η k => k.bk σ η
theorem js_break {pos : Pos} : JS X N E (.Break pos) sBreak := PS.imp ps_break fun Z σ H q => by
  obtain ⟨W, σd, k, rfl, o, s, h, hk⟩ := q
  exact hk.bk W σd σ (Ext.refl W) o s h
def sCont : CS := fun σ η k => k.ct σ η
theorem js_cont {pos : Pos} : JS X N E (.Continue pos) sCont := PS.imp ps_continue fun Z σ H q => by
  obtain ⟨W, σd, k, rfl, o, s, h, hk⟩ := q
  exact hk.ct W σd σ (Ext.refl W) o s h
def sNever : CS := fun _ _ _ => false
theorem js_never {st : Stmt} : JS X N E st sNever := PS.imp ps_never fun Z σ H q => by
  obtain ⟨W, σd, k, rfl, o, s, h, hk⟩ := q
  cases h
theorem jb_never {st : List Stmt} : JB X N E st sNever := PSs.imp pss_never fun Z σ H q => by
  obtain ⟨W, σd, k, rfl, o, s, h, hk⟩ := q
  cases h
def sExpr (c : CE) : CS := fun σ η k => c σ η (fun _ η1 => k.nx σ η1) k.xc
theorem js_expr {e : Expr} {c : CE} {pos : Pos} (h : JE X N E e c) (hs : swapsWith e none pos.line X.env = pure false := by rfl) : JS X N E (.Expr e pos) (sExpr c) := PS.imp (ps_expr h hs) fun Z σ H q => by
  obtain ⟨W, σd, k, rfl, o, s, h, hk⟩ := q
  exact tE.bind o s hk.xc h fun W1 d v x1 o1 r1 s1 hx1 h1 => hk.nx W1 σd σ x1 o1 s1 h1
def sRet (c : CE) : CS := fun σ η k => c σ η k.rt k.xc
theorem js_ret {e : Expr} {c : CE} {pos : Pos} (h : JE X N E e c) : JS X N E (.Return (some e) pos) (sRet c) := PS.imp (ps_ret h) fun Z σ H q => by
  obtain ⟨W, σd, k, rfl, o, s, h, hk⟩ := q
  exact tE.bind o s hk.xc h fun W1 d v x1 o1 r1 s1 hx1 h1 => hk.rt W1 d v x1 o1 r1 h1
def sRetN : CS := fun _ η k => k.rt .non η
theorem js_retN {pos : Pos} : JS X N E (.Return none pos) sRetN := PS.imp ps_retN fun Z σ H q => by
  obtain ⟨W, σd, k, rfl, o, s, h, hk⟩ := q
  exact hk.rt.here o mkNon h
def sIf (t : CT) (a b : CS) : CS := fun σ η k => t σ η (fun x η1 => match x with
  | true => a σ η1 k
  | false => b σ η1 k) k.xc
theorem js_if {c : Expr} {a b : List Stmt} {ct : CT} {ca cb : CS} {pos : Pos} (hc : JT X N E c ct) (ha : JB X N E a ca) (hb : JB X N E b cb) : JS X N E (.If c a b pos) (sIf ct ca cb) := PS.imp (ps_if hc ha hb) fun Z σ H q => by
  obtain ⟨W, σd, k, rfl, o, s, h, hk⟩ := q
  refine tT.bind o s hk.xc h fun W1 b x1 o1 s1 hx1 h1 => ?_
  cases b with
  | true => rw [if_pos rfl]; exact ⟨W1, σd, k, rfl, o1, s1, h1, hk.mono o o1 x1⟩
  | false => rw [if_neg (by decide)]; exact ⟨W1, σd, k, rfl, o1, s1, h1, hk.mono o o1 x1⟩

/-! ### targets -/
abbrev CG := D → SD → Hd → (SD → Hd → Bool) → KX → Bool
abbrev CGs := List D → SD → Hd → (SD → Hd → Bool) → KX → Bool
def Gk (K : PySem.W.Frag) (N : Nm) (W : Wl) (k : SD → Hd → Bool) (Q : St → Hp → Prop) : Prop := ∀ W' σd σ, Ext W W' → W'.Ok K N.toNames → RelS W' σd σ → k σd W'.η = true → Q σ W'.H
theorem Gk.mono {K : PySem.W.Frag} {W W' : Wl} {k : SD → Hd → Bool} {Q : St → Hp → Prop} (o : W.Ok K N.toNames) (o' : W'.Ok K N.toNames) (x : Ext W W') (h : Gk K N W k Q) : Gk K N W' k Q := fun W2 a b y => h W2 a b (x.trans o o' y)
def tG (K : PySem.W.Frag) (N : Nm) (E : XK) (c : CG) : TG := fun v σ H Q => ∃ W d σd k kx, W.H = H ∧ W.Ok K N.toNames ∧ RelD W d v ∧ RelS W σd σ ∧ c d σd W.η k kx = true ∧ Gk K N W k Q ∧ Xk K N E W kx
def tGs (K : PySem.W.Frag) (N : Nm) (E : XK) (c : CGs) : TGs := fun vs σ H Q => ∃ W ds σd k kx, W.H = H ∧ W.Ok K N.toNames ∧ RelDs W ds vs ∧ RelS W σd σ ∧ c ds σd W.η k kx = true ∧ Gk K N W k Q ∧ Xk K N E W kx
def JG (X : Cx) (N : Nm) (E : XK) (e : Expr) (c : CG) : Prop := PG X e (tG X.K N E c)
def JGs (X : Cx) (N : Nm) (E : XK) (e : List Expr) (c : CGs) : Prop := PGs X e (tGs X.K N E c)
theorem PG.imp {e : Expr} {t t' : TG} (h : PG X e t) (f : ∀ v σ H Q, t' v σ H Q → t v σ H Q) : PG X e t' := ⟨fun pins s σ H v u Q I r q => h.run pins s σ H v u Q I r (f v σ H Q q)⟩
theorem PGs.imp {e : List Expr} {t t' : TGs} (h : PGs X e t) (f : ∀ v σ H Q, t' v σ H Q → t v σ H Q) : PGs X e t' := ⟨fun pins s σ H v u Q I r q => h.run pins s σ H v u Q I r (f v σ H Q q)⟩
def gNm (i : Nat) : CG := fun d σ η k _ => k (σ.set i (some d)) η
theorem jg_name {i : Nat} {x : Str} {pos : Pos} (h : PG X (.Name x pos) (gName i)) : JG X N E (.Name x pos) (gNm i) := PG.imp h fun v σ H Q q => by
  obtain ⟨W, d, σd, k, kx, rfl, o, r, s, h, hk, hx⟩ := q
  exact hk W _ _ (Ext.refl W) o (s.set i r) h
def gsNil : CGs := fun ds σ η k _ => match ds with
  | [] => k σ η
  | _ => false
def gsCons (g : CG) (r : CGs) : CGs := fun ds σ η k kx => match ds with
  | d :: ds' => g d σ η (fun σ1 η1 => r ds' σ1 η1 k kx) kx
  | [] => false
theorem jgs_nil : JGs X N E [] gsNil := PGs.imp pgs_nil fun v σ H Q q => by
  obtain ⟨W, ds, σd, k, kx, rfl, o, r, s, h, hk, hx⟩ := q
  cases ds with
  | nil => rw [RelDs] at r; exact ⟨r, hk W _ _ (Ext.refl W) o s h⟩
  | cons _ _ => cases h
theorem jgs_cons {e : Expr} {es : List Expr} {g : CG} {r : CGs} (hg : JG X N E e g) (hr : JGs X N E es r) (ha : ((assignEach (e :: es) X.env).map (·.2)) = assign e X.env :: ((assignEach es X.env).map (·.2)) := by rfl) : JGs X N E (e :: es) (gsCons g r) := PGs.imp (pgs_cons hg hr ha) fun v σ H Q q => by
  obtain ⟨W, ds, σd, k, kx, rfl, o, rr, s, h, hk, hx⟩ := q
  cases ds with
  | nil => cases h
  | cons d ds =>
    rw [RelDs] at rr
    obtain ⟨v, vs, rfl, r1, r2⟩ := rr
    exact ⟨v, vs, rfl, W, d, σd, _, kx, rfl, o, r1, s, h, fun W1 σd1 σ1 x1 o1 s1 h1 => ⟨W1, ds, σd1, k, kx, rfl, o1, r2.mono o x1, s1, h1, hk.mono o o1 x1, hx.mono o o1 x1⟩, hx⟩
def gTp (n : Nat) (r : CGs) : CG := fun d σ η k kx => match d with
  | .tup ds => match Nat.beq ds.length n with
    | true => r ds σ η k kx
    | false => false
  | _ => false
theorem jg_tup {es : List Expr} {kk : Nat} {pos : Pos} {r : CGs} {n : Nat} (hc : X.calm = true) (h : JGs X N E es r) (hl : (assignEach es X.env).length = n := by rfl) (hf : (assignEach es X.env).findIdx? (·.1) = none := by rfl) : JG X N E (.Tuple es kk pos) (gTp n r) :=
  PG.imp (pg_tup (n := n) hc h hl hf) fun v σ H Q q => by
    obtain ⟨W, d, σd, k, kx, rfl, o, rr, s, h, hk, hx⟩ := q
    cases d with
    | tup ds =>
      simp only [gTp] at h
      cases e : Nat.beq ds.length n with
      | false => rw [e] at h; cases h
      | true =>
        rw [e] at h
        obtain ⟨a, vs, rfl, hs, rs⟩ := relTup rr
        exact ⟨a, vs, rfl, SqT.of hs, by rw [← rs.length]; exact Nat.eq_of_beq_eq_true e, W, ds, σd, k, kx, rfl, o, rs, s, h, hk, hx⟩
    | _ => cases h
def gUl (n : Nat) (r : CGs) : CG := fun d σ η k kx => match d with
  | .ref q => match η.list q with
    | some ds => match Nat.beq ds.length n with
      | true => r ds σ η k kx
      | false => false
    | none => false
  | _ => false
theorem jg_unl {es : List Expr} {kk : Nat} {pos : Pos} {r : CGs} {n : Nat} (hc : X.calm = true) (h : JGs X N E es r) (hl : (assignEach es X.env).length = n := by rfl) (hf : (assignEach es X.env).findIdx? (·.1) = none := by rfl) : JG X N E (.Tuple es kk pos) (gUl n r) :=
  PG.imp (pg_unl (n := n) hc h hl hf) fun v σ H Q q => by
    obtain ⟨W, d, σd, k, kx, rfl, o, rr, s, h, hk, hx⟩ := q
    cases d with
    | ref q =>
      simp only [gUl] at h
      cases el : W.η.list q with
      | none => rw [el] at h; cases h
      | some ds =>
        rw [el] at h
        simp only at h
        cases e : Nat.beq ds.length n with
        | false => rw [e] at h; cases h
        | true =>
          rw [e] at h
          obtain ⟨vs, g1, g2, g3⟩ := list_of o el
          rw [relRef rr]
          exact ⟨_, vs, rfl, g1, by rw [← g2.length]; exact Nat.eq_of_beq_eq_true e, W, ds, σd, k, kx, rfl, o, g2, s, h, hk, hx⟩
    | _ => cases h
/-! a store to o[i] -/
def dput (k v : D) (kvs : List (D × D)) : List (D × D) := match kvs.any (fun p => eqK p.1 k) with
  | true => kvs.map fun p => match eqK p.1 k with
    | true => (p.1, v)
    | false => p
  | false => kvs ++ [(k, v)]
theorem any_relK {W : Wl} {k : D} {k' : Key} (hk : D.key k = some k') : ∀ {kvs : List (D × D)} {ps : List (Key × V)}, RelK W kvs ps → kvs.any (fun p => eqK p.1 k) = ps.any (fun kv => decide (kv.1 = k'))
  | [], ps, h => by rw [RelK] at h; subst h; rfl
  | (a, b) :: r, ps, h => by
    rw [RelK] at h
    obtain ⟨a', v, ps', rfl, h1, h2, h3⟩ := h
    simp only [List.any_cons]
    rw [key1_eq h1 hk, any_relK hk h3]
theorem any_relT {W : Wl} {l : List D} {k' : List Key} (hk : keysOf l = some k') : ∀ {kvs : List (D × D)} {ps : List (List Key × V)}, RelT W kvs ps → kvs.any (fun p => eqK p.1 (.tup l)) = ps.any (fun kv => decide (kv.1 = k'))
  | [], ps, h => by rw [RelT] at h; subst h; rfl
  | (a, b) :: r, ps, h => by
    rw [RelT] at h
    obtain ⟨a', v, ps', rfl, h1, h2, h3⟩ := h
    simp only [List.any_cons]
    cases a with
    | tup m => rw [keyT_eq h1 hk, any_relT hk h3]
    | _ => cases h1
theorem map_relK {W : Wl} {k : D} {k' : Key} {d : D} {w : V} (hk : D.key k = some k') (rd : RelD W d w) : ∀ {kvs : List (D × D)} {ps : List (Key × V)}, RelK W kvs ps →
    RelK W (kvs.map fun p => match eqK p.1 k with | true => (p.1, d) | false => p) (ps.map fun kv => if kv.1 = k' then (kv.1, w) else kv)
  | [], ps, h => by rw [RelK] at h; subst h; rw [List.map_nil, List.map_nil, RelK]
  | (a, b) :: r, ps, h => by
    rw [RelK] at h
    obtain ⟨a', v, ps', rfl, h1, h2, h3⟩ := h
    rw [List.map_cons, List.map_cons]
    have e := key1_eq h1 hk
    by_cases z : a' = k'
    · have e2 : eqK a k = true := by rw [e, decide_eq_true z]
      simp only [e2, if_pos z]
      rw [RelK]; exact ⟨a', w, _, rfl, h1, rd, map_relK hk rd h3⟩
    · have e2 : eqK a k = false := by rw [e, decide_eq_false z]
      simp only [e2, if_neg z]
      rw [RelK]; exact ⟨a', v, _, rfl, h1, h2, map_relK hk rd h3⟩
theorem map_relT {W : Wl} {l : List D} {k' : List Key} {d : D} {w : V} (hk : keysOf l = some k') (rd : RelD W d w) : ∀ {kvs : List (D × D)} {ps : List (List Key × V)}, RelT W kvs ps →
    RelT W (kvs.map fun p => match eqK p.1 (.tup l) with | true => (p.1, d) | false => p) (ps.map fun kv => if kv.1 = k' then (kv.1, w) else kv)
  | [], ps, h => by rw [RelT] at h; subst h; rw [List.map_nil, List.map_nil, RelT]
  | (a, b) :: r, ps, h => by
    rw [RelT] at h
    obtain ⟨a', v, ps', rfl, h1, h2, h3⟩ := h
    rw [List.map_cons, List.map_cons]
    have e : eqK a (.tup l) = decide (a' = k') := by
      cases a with
      | tup m => exact keyT_eq h1 hk
      | _ => cases h1
    by_cases z : a' = k'
    · have e2 : eqK a (.tup l) = true := by rw [e, decide_eq_true z]
      simp only [e2, if_pos z]
      rw [RelT]; exact ⟨a', w, _, rfl, h1, rd, map_relT hk rd h3⟩
    · have e2 : eqK a (.tup l) = false := by rw [e, decide_eq_false z]
      simp only [e2, if_neg z]
      rw [RelT]; exact ⟨a', v, _, rfl, h1, h2, map_relT hk rd h3⟩
theorem app_relK {W : Wl} {k : D} {k' : Key} {d : D} {w : V} (hk : D.key k = some k') (rd : RelD W d w) : ∀ {kvs : List (D × D)} {ps : List (Key × V)}, RelK W kvs ps → RelK W (kvs ++ [(k, d)]) (ps ++ [(k', w)])
  | [], ps, h => by rw [RelK] at h; subst h; rw [List.nil_append, List.nil_append, RelK]; exact ⟨k', w, [], rfl, hk, rd, by rw [RelK]⟩
  | (a, b) :: r, ps, h => by
    rw [RelK] at h
    obtain ⟨a', v, ps', rfl, h1, h2, h3⟩ := h
    rw [List.cons_append, List.cons_append, RelK]
    exact ⟨a', v, _, rfl, h1, h2, app_relK hk rd h3⟩
theorem app_relT {W : Wl} {k : D} {k' : List Key} {d : D} {w : V} (hk : D.tkey k = some k') (rd : RelD W d w) : ∀ {kvs : List (D × D)} {ps : List (List Key × V)}, RelT W kvs ps → RelT W (kvs ++ [(k, d)]) (ps ++ [(k', w)])
  | [], ps, h => by rw [RelT] at h; subst h; rw [List.nil_append, List.nil_append, RelT]; exact ⟨k', w, [], rfl, hk, rd, by rw [RelT]⟩
  | (a, b) :: r, ps, h => by
    rw [RelT] at h
    obtain ⟨a', v, ps', rfl, h1, h2, h3⟩ := h
    rw [List.cons_append, List.cons_append, RelT]
    exact ⟨a', v, _, rfl, h1, h2, app_relT hk rd h3⟩
theorem dput_relK {W : Wl} {k : D} {k' : Key} {d : D} {w : V} {kvs : List (D × D)} {ps : List (Key × V)} (hk : D.key k = some k') (rd : RelD W d w) (h : RelK W kvs ps) : RelK W (dput k d kvs) (putK ps k' w) := by
  unfold dput putK
  rw [any_relK hk h]
  cases e : ps.any (fun kv => decide (kv.1 = k')) with
  | true => rw [if_pos rfl]; exact map_relK hk rd h
  | false => rw [if_neg (by decide)]; exact app_relK hk rd h
theorem dput_relT {W : Wl} {l : List D} {k' : List Key} {d : D} {w : V} {kvs : List (D × D)} {ps : List (List Key × V)} (hk : keysOf l = some k') (rd : RelD W d w) (h : RelT W kvs ps) : RelT W (dput (.tup l) d kvs) (putK ps k' w) := by
  unfold dput putK
  rw [any_relT hk h]
  cases e : ps.any (fun kv => decide (kv.1 = k')) with
  | true => rw [if_pos rfl]; exact map_relT hk rd h
  | false => rw [if_neg (by decide)]; exact app_relT (k := .tup l) hk rd h
theorem dput_len (k d : D) (kvs : List (D × D)) : (dput k d kvs).length ≤ kvs.length + 1 := by
  unfold dput
  split
  · rw [List.length_map]; omega
  · rw [List.length_append]; exact Nat.le_refl _
theorem relK_len {W : Wl} : ∀ {kvs : List (D × D)} {ps : List (Key × V)}, RelK W kvs ps → kvs.length = ps.length
  | [], ps, h => by rw [RelK] at h; subst h; rfl
  | (a, b) :: r, ps, h => by rw [RelK] at h; obtain ⟨a', v, ps', rfl, h1, h2, h3⟩ := h; simp [relK_len h3]
theorem relT_len {W : Wl} : ∀ {kvs : List (D × D)} {ps : List (List Key × V)}, RelT W kvs ps → kvs.length = ps.length
  | [], ps, h => by rw [RelT] at h; subst h; rfl
  | (a, b) :: r, ps, h => by rw [RelT] at h; obtain ⟨a', v, ps', rfl, h1, h2, h3⟩ := h; simp [relT_len h3]
def fSet (o i v : D) (η : Hd) : Option Hd := match o with
  | .ref r => match η.get r with
    | some (.lst l) => match i with
      | .int j => match ixD l.length j with
        | some n => some (η.set r (.lst (l.set n v)))
        | none => none
      | _ => none
    | some (.dct t kvs) => match isKey t i, Nat.blt kvs.length line with
      | true, true => some (η.set r (.dct t (dput i v kvs)))
      | _, _ => none
    | _ => none
  | _ => none
theorem ixD_ixN {n : Nat} {i : Int} {k : Nat} (h : ixD n i = some k) : ixN n i = some k := by
  unfold ixN
  cases i with
  | ofNat j =>
    simp only [ixD] at h
    cases e : Nat.blt j n with
    | false => rw [e] at h; cases h
    | true =>
      rw [e] at h
      have hb : j < n := Nat.le_of_ble_eq_true e
      rw [if_pos (show (0 : Int) ≤ Int.ofNat j from Int.natCast_nonneg j), if_pos (show Int.ofNat j < (n : Int) from by show ((j : Nat) : Int) < _; omega)]
      exact h
  | negSucc j =>
    simp only [ixD] at h
    cases e : Nat.ble (j + 1) n with
    | false => rw [e] at h; cases h
    | true =>
      rw [e] at h
      have hb : j + 1 ≤ n := Nat.le_of_ble_eq_true e
      have e1 : Int.negSucc j = -((j + 1 : Nat) : Int) := rfl
      rw [if_neg (show ¬ (0 : Int) ≤ Int.negSucc j from by rw [e1]; omega), if_pos (show -(n : Int) ≤ Int.negSucc j from by rw [e1]; omega), ← h]
      congr 1; rw [e1]; omega
def tSet (K : PySem.W.Frag) (N : Nm) : TSet := fun o i v H Q => ∃ W dq di dv η', W.H = H ∧ W.Ok K N.toNames ∧ RelD W dq o ∧ RelD W di i ∧ RelD W dv v ∧ fSet dq di dv W.η = some η' ∧ (∀ W', Ext W W' → W'.Ok K N.toNames → W'.η = η' → Q W'.H)
theorem PSet.or {t t' : TSet} (h : PSet X t) (h' : PSet X t') : PSet X (fun o i v H Q => t o i v H Q ∨ t' o i v H Q) :=
  fun pins s σ H o i v ov iv u Q I r1 r2 r3 q => q.elim (h pins s σ H o i v ov iv u Q I r1 r2 r3) (h' pins s σ H o i v ov iv u Q I r1 r2 r3)
theorem PSet.imp {t t' : TSet} (h : PSet X t) (f : ∀ o i v H Q, t' o i v H Q → t o i v H Q) : PSet X t' :=
  fun pins s σ H o i v ov iv u Q I r1 r2 r3 q => h pins s σ H o i v ov iv u Q I r1 r2 r3 (f o i v H Q q)
theorem pset_all (hu : X.A.units + 1 < cLine) : PSet X (tSet X.K N) := PSet.imp (PSet.or set_list (set_dict hu)) fun vo vi vv H Q q => by
  obtain ⟨W, dq, di, dv, η', rfl, o, ro, ri, rv, hf, hq⟩ := q
  cases dq with
  | ref r =>
    simp only [fSet] at hf
    cases e : W.η.get r with
    | none => rw [e] at hf; cases hf
    | some c =>
      rw [e] at hf
      rw [relRef ro]
      cases c with
      | lst l =>
        cases di with
        | int j =>
          simp only at hf
          cases ek : ixD l.length j with
          | none => rw [ek] at hf; cases hf
          | some n =>
            rw [ek] at hf
            cases hf
            obtain ⟨vs, g1, g2, g3⟩ := o.cell r _ e
            rw [relInt ri]
            refine .inl ⟨_, vs, j, n, rfl, rfl, g1, by rw [← g2.length]; exact ixD_ixN ek, ?_⟩
            obtain ⟨x, o'⟩ := o.put (c := .lst (l.set n dv)) (ob := .lst (vs.set n vv)) e rfl (fun x => ⟨_, upd_same, (g2.mono o x).set (rv.mono o x) n, by rw [List.length_set]; exact g3⟩)
            exact hq _ x o' rfl
        | _ => cases hf
      | dct t kvs =>
        simp only at hf
        cases ek : isKey t di with
        | false => rw [ek] at hf; cases hf
        | true =>
          cases el : Nat.blt kvs.length line with
          | false => rw [ek, el] at hf; cases hf
          | true =>
            rw [ek, el] at hf
            cases hf
            have hl : kvs.length < sizeLine := Nat.le_of_ble_eq_true el
            have hl2 : (dput di dv kvs).length ≤ sizeLine := Nat.le_trans (dput_len _ _ _) hl
            have c := o.cell r _ e
            cases t with
            | false =>
              obtain ⟨ps, h1, h2, h3⟩ := c
              obtain ⟨k', hk'⟩ := isKey_key ek
              have ev := key_rel hk' ri
              subst ev
              refine .inr ⟨W.μ r, _, rfl, .inl ⟨ps, k', h1, rfl, by rw [← relK_len h2]; exact hl, rfl⟩, ?_⟩
              obtain ⟨x, o'⟩ := o.put (c := .dct false (dput di dv kvs)) (ob := .dK (putK ps k' vv)) e rfl (fun x => ⟨_, upd_same, dput_relK hk' (rv.mono o x) (h2.mono o x), hl2⟩)
              exact hq _ x o' rfl
            | true =>
              obtain ⟨ps, h1, h2, h3⟩ := c
              cases di with
              | tup l =>
                obtain ⟨k', hk'⟩ := isKey_keys ek
                obtain ⟨q, vs, rfl, hqs, rq⟩ := relTup ri
                have ev := keys_rel hk' rq
                subst ev
                refine .inr ⟨W.μ r, _, rfl, .inr ⟨ps, k', q, h1, rfl, hqs, by rw [← relT_len h2]; exact hl, rfl⟩, ?_⟩
                obtain ⟨x, o'⟩ := o.put (c := .dct true (dput (.tup l) dv kvs)) (ob := .dT (putK ps k' vv)) e rfl (fun x => ⟨_, upd_same, dput_relT hk' (rv.mono o x) (h2.mono o x), hl2⟩)
                exact hq _ x o' rfl
              | _ => cases ek
      | _ => cases hf
  | _ => cases hf
def gSb (co ci : CE) : CG := fun d σ η k kx => co σ η (fun x η1 => ci σ η1 (fun y η2 => match fSet x y d η2 with
  | some η3 => k σ η3
  | none => false) kx) kx
theorem jg_sub {o i : Expr} {co ci : CE} {pos : Pos} (hu : X.A.units + 1 < cLine) (ho : JE X N E o co) (hi : JE X N E i ci)
    (hs : ∀ v, assign (.Subscript o i pos) X.env v = (do let ov ← holding [v] (eval o X.env); let iv ← holding [v, ov] (eval i X.env); standAt pos; holding [v, ov, iv] (setItem ov iv v); release [v, ov, iv] []) := by intro _; rfl) : JG X N E (.Subscript o i pos) (gSb co ci) :=
  PG.imp (pg_sub ho hi (pset_all (N := N) hu) hs) fun v σ H Q q => by
    obtain ⟨W, d, σd, k, kx, rfl, o, r, s, h, hk, hx⟩ := q
    refine tE.bind o s hx h fun W1 dx x x1 o1 r1 s1 hx1 h1 => ?_
    refine tE.bind o1 s1 hx1 h1 fun W2 dy y x2 o2 r2 s2 hx2 h2 => ?_
    cases e : fSet dx dy d W2.η with
    | none => rw [e] at h2; cases h2
    | some η' =>
      rw [e] at h2
      have x02 := x1.trans o o1 x2
      exact ⟨W2, dx, dy, d, η', rfl, o2, r1.mono o1 x2, r2, r.mono o x02, e, fun W3 x3 o3 e3 => hk W3 σd σ (x02.trans o o2 x3) o3 (s2.mono o2 x3) (by rw [e3]; exact h2)⟩

/-! ### assignments -/
def sAsg (c : CE) (g : CG) : CS := fun σ η k => c σ η (fun d η1 => g d σ η1 k.nx k.xc) k.xc
theorem tAsg_of {K : PySem.W.Frag} {c : CE} {g : CG} {Z : Ends} {σ : St} {H : Hp} (h : tS K N E (sAsg c g) Z σ H) : tAsg (tE K N E c) (tG K N E g) Z σ H := by
  obtain ⟨W, σd, k, rfl, o, s, h, hk⟩ := h
  exact tE.bind o s hk.xc h fun W1 d v x1 o1 r1 s1 hx1 h1 => ⟨W1, d, σd, k.nx, k.xc, rfl, o1, r1, s1, h1, fun W2 σd2 σ2 x2 o2 s2 h2 => hk.nx W2 σd2 σ2 (x1.trans o o1 x2) o2 s2 h2, hx1⟩
theorem js_asg {tg e : Expr} {c : CE} {g : CG} {pos : Pos} (he : JE X N E e c) (hg : JG X N E tg g) (h1 : swapsWithSole [tg] e pos.line X.env = pure false := by rfl) (h2 : swappedStores [tg] e X.env = pure none := by rfl)
    (h3 : (assignEach [tg] X.env).map (·.2) = [assign tg X.env] := by rfl) : JS X N E (.Assign [tg] e pos) (sAsg c g) := PS.imp (ps_asg he hg h1 h2 h3) fun Z σ H q => tAsg_of q
theorem tAsg_name {K : PySem.W.Frag} {c : CE} {i : Nat} {te : TE} {Z : Ends} {σ : St} {H : Hp} (ht : ∀ σ H Q, tE K N E c σ H Q → te σ H Q) (h : tS K N E (sAsg c (gNm i)) Z σ H) : tAsg te (gName i) Z σ H := by
  obtain ⟨W, σd, k, rfl, o, s, h, hk⟩ := h
  exact ht _ _ _ (tE.bind o s hk.xc h fun W1 d v x1 o1 r1 s1 hx1 h1 => hk.nx W1 _ _ x1 o1 (s1.set i r1) h1)
theorem js_set {i : Nat} {x : Str} {e : Expr} {c : CE} {pos pos' : Pos} (hN : X.N.Nodup) (hi : X.N[i]? = some x) (hx : L2.Loc X.env.scope x) (he : JE X N E e c) (h1 : swapsWith e (some (.Name x pos')) pos.line X.env = pure false := by rfl)
    (hf : X.fn x = true ∨ X.env.scope.names.lookup x = some .local := by first | exact .inl rfl | exact .inr rfl | assumption) : JS X N E (.Assign [.Name x pos'] e pos) (sAsg c (gNm i)) := PS.imp (ps_set hN hi hx he h1 hf) fun Z σ H q => tAsg_name (fun _ _ _ h => h) q
def sPar (i j : Nat) (a : CA) : CS := fun σ η k => a σ η (fun ds η1 => match ds with
  | [x, y] => k.nx ((σ.set i (some x)).set j (some y)) η1
  | _ => false) k.xc
theorem js_par {i j : Nat} {x y : Str} {a b : Expr} {ca : CA} {px py pt pos : Pos} {kt k2 pt2} (hc : X.calm = true) (hN : X.N.Nodup) (hi : X.N[i]? = some x) (hj : X.N[j]? = some y) (hij : i ≠ j) (hx : X.env.scope.names.lookup x = some .local) (hy : X.env.scope.names.lookup y = some .local)
    (ha : JA X N E [a, b] ca) (hw : swappedStores [.Tuple [.Name x px, .Name y py] kt pt] (.Tuple [a, b] k2 pt2) X.env = pure (some [x, y])) : JS X N E (.Assign [.Tuple [.Name x px, .Name y py] kt pt] (.Tuple [a, b] k2 pt2) pos) (sPar i j ca) :=
  PS.imp (ps_par hc hN hi hj hij hx hy ha hw) fun Z σ H q => by
    obtain ⟨W, σd, k, rfl, o, s, h, hk⟩ := q
    refine tAr.bind o s hk.xc h fun W1 ds vs x1 o1 r1 s1 hx1 h1 => ?_
    match ds, r1, h1 with
    | [d, e], r1, h1 =>
      obtain ⟨v, u, rfl, ra, rb⟩ := rel2 r1
      exact ⟨v, u, rfl, hk.nx W1 _ _ x1 o1 ((s1.set i ra).set j rb) h1⟩
    | [], _, h1 => cases h1
    | [_], _, h1 => cases h1
    | _ :: _ :: _ :: _, _, h1 => cases h1
theorem rel3 {W : Wl} {d e f : D} {vs : List V} (h : RelDs W [d, e, f] vs) : ∃ v u w, vs = [v, u, w] ∧ RelD W d v ∧ RelD W e u ∧ RelD W f w := by
  rw [RelDs] at h
  obtain ⟨v, vs', rfl, h1, h2⟩ := h
  obtain ⟨u, w, rfl, h3, h4⟩ := rel2 h2
  exact ⟨v, u, w, rfl, h1, h3, h4⟩
def sPar3 (i j l : Nat) (a : CA) : CS := fun σ η k => a σ η (fun ds η1 => match ds with
  | [x, y, z] => k.nx (((σ.set i (some x)).set j (some y)).set l (some z)) η1
  | _ => false) k.xc
/-! x op= e -/
def sAug (i : Nat) (f : F2) (c : CE) : CS := fun σ η k => match σ[i]? with
  | some (some x) => c σ η (fun y η1 => match f x y η1 with
    | some (d, η2) => k.nx (σ.set i (some d)) η2
    | none => false) k.xc
  | _ => false
theorem js_aug {i : Nat} {x : Str} {e : Expr} {c : CE} {op : Operator} {f : F2} {pos pos' : Pos} (hN : X.N.Nodup) (hi : X.N[i]? = some x) (hx : L2.Loc X.env.scope x) (he : JE X N E e c) (ho : OpR X (inplaceOp op) (r2 X.K N f))
    (hf : X.fn x = true ∨ X.env.scope.names.lookup x = some .local := by first | exact .inl rfl | exact .inr rfl | assumption) : JS X N E (.AugAssign (.Name x pos') op e pos) (sAug i f c) :=
  PS.imp (ps_aug hN hi hx he ho hf) fun Z σ H q => by
    obtain ⟨W, σd, k, rfl, o, s, h, hk⟩ := q
    simp only [sAug] at h
    cases e : σd[i]? with
    | none => rw [e] at h; cases h
    | some y =>
      cases y with
      | none => rw [e] at h; cases h
      | some d =>
        rw [e] at h
        obtain ⟨v, ev, rv⟩ := s.get i d e
        refine ⟨v, ev, tE.bind o s hk.xc h fun W1 dy y x1 o1 r1 s1 hx1 h1 => ?_⟩
        cases ef : f d dy W1.η with
        | none => rw [ef] at h1; cases h1
        | some p =>
          obtain ⟨z, η'⟩ := p
          rw [ef] at h1
          exact ⟨W1, d, dy, z, η', rfl, o1, rv.mono o x1, r1, ef, fun W' w x3 o3 e3 r3 => hk.nx W' _ _ (x1.trans o o1 x3) o3 ((s1.mono o1 x3).set i r3) (by rw [e3]; exact h1)⟩
theorem opd_iadd : OpR X (inplaceOp .Add) (r2 X.K N (fI2 iadd)) := opd_int iop_add fun _ _ => rfl
theorem opd_isub : OpR X (inplaceOp .Sub) (r2 X.K N (fI2 isub)) := opd_int iop_sub fun _ _ => rfl
theorem opd_imul : OpR X (inplaceOp .Mult) (r2 X.K N (fI2c mulOk imul)) := opd_intc iop_mul mulOk_ok fun _ _ => rfl
theorem opd_idiv : OpR X (inplaceOp .FloorDiv) (r2 X.K N (fI2c divOk idiv)) := opd_intc iop_fdiv divOk_ok fun _ _ => rfl
end
end DL

/-! what a for walks, for, while, comprehensions -/
namespace DL
open PySem PySem.Spec L2
/-- what is walked: the items; a cell that must not change meanwhile, with its list -/
structure Its where
  l : List D
  fz : Option (Nat × List D)
def Its.fr (it : Its) (η : Hd) : Hd := match it.fz with
  | none => η
  | some (r, l) => frzAt r l η
def Its.un (it : Its) (η : Hd) : Hd := match it.fz with
  | none => η
  | some (r, l) => unfAt r l η
def FzOk (W : Wl) (it : Its) : Prop := ∀ r l, it.fz = some (r, l) → W.η.get r = some (.lst l)
def Its.w (it : Its) (W : Wl) : Wl := ⟨W.μ, it.fr W.η, W.H⟩
/-- what a walk leans on stays -/
structure Sty (Wf W1 : Wl) : Prop where
  tx : Tx Wf W1
  fz : ∀ r l vs, Wf.η.get r = some (.frz l) → Wf.H (Wf.μ r) = some (.lst vs) → W1.H (Wf.μ r) = some (.lst vs)
theorem Ext.sty {K : PySem.W.Frag} {N : Names} {W W1 : Wl} (o : W.Ok K N) (x : Ext W W1) : Sty W W1 := ⟨x.tx o, fun r l vs h hv => x.fr _ _ hv (fun _ z => nomatch z) fun q c e m z => by
  by_cases y : q = r
  · rw [y, h] at e; cases e; cases m
  · exact o.apart h e y z⟩
structure WalkD (K : PySem.W.Frag) (N : Nm) (Wf : Wl) (l : List D) (J : It) : Prop where
  go : ∀ W1 i, Sty Wf W1 → W1.Ok K N.toNames → i < l.length → J.go i W1.H
  stop : ∀ W1, Sty Wf W1 → W1.Ok K N.toNames → J.stop l.length W1.H
  yld : ∀ W1 i x H', Sty Wf W1 → W1.Ok K N.toNames → i < l.length → J.yld i W1.H x H' → ∃ W2 d, l[i]? = some d ∧ Ext W1 W2 ∧ W2.Ok K N.toNames ∧ W2.H = H' ∧ W2.η = W1.η ∧ RelD W2 d x
abbrev CI := SD → Hd → (Its → Hd → Bool) → KX → Bool
def tI (K : PySem.W.Frag) (N : Nm) (E : XK) (c : CI) : TI := fun σ H R => ∃ W σd k kx, W.H = H ∧ W.Ok K N.toNames ∧ RelS W σd σ ∧ c σd W.η k kx = true ∧
  (∀ W' it J, Ext W W' → W'.Ok K N.toNames → FzOk W' it → WalkD K N (it.w W') it.l J → k it W'.η = true → R J W'.H) ∧ Xk K N E W kx
def JI (X : Cx) (N : Nm) (E : XK) (tg iter : Expr) (c : CI) : Prop := PI X tg iter (tI X.K N E c)
section
variable {X : Cx} {N : Nm} {E : XK}
theorem PI.imp {tg iter : Expr} {t t' : TI} (h : PI X tg iter t) (f : ∀ σ H R, t' σ H R → t σ H R) : PI X tg iter t' := ⟨fun pins s σ H R I q => h.run pins s σ H R I (f σ H R q)⟩
/-- frozen and thawed -/
theorem Its.froze {K : PySem.W.Frag} {W : Wl} {it : Its} (o : W.Ok K N.toNames) (h : FzOk W it) : Ext W (it.w W) ∧ (it.w W).Ok K N.toNames := by
  unfold Its.w Its.fr
  cases e : it.fz with
  | none => exact ⟨Ext.refl W, o⟩
  | some p => obtain ⟨r, l⟩ := p; exact o.freeze (h r l e)
theorem Its.thaw {K : PySem.W.Frag} {W W1 : Wl} {it : Its} (o : W.Ok K N.toNames) (h : FzOk W it) (x : Ext (it.w W) W1) (o1 : W1.Ok K N.toNames) : Ext W ⟨W1.μ, it.un W1.η, W1.H⟩ ∧ Wl.Ok K N.toNames ⟨W1.μ, it.un W1.η, W1.H⟩ := by
  unfold Its.un
  unfold Its.w Its.fr at x
  cases e : it.fz with
  | none => rw [e] at x; exact ⟨x, o1⟩
  | some p => obtain ⟨r, l⟩ := p; rw [e] at x; exact o.unfreeze (h r l e) x o1
theorem Its.un_nx (it : Its) (η : Hd) : (it.un η).nx = η.nx := by
  unfold Its.un; cases it.fz with
  | none => rfl
  | some p => rfl
theorem thaw_tx {W1 : Wl} (it : Its) : Tx W1 ⟨W1.μ, it.un W1.η, W1.H⟩ := ⟨Nat.le_of_eq (Its.un_nx it W1.η).symm, fun _ _ => rfl, fun _ _ e => e⟩
theorem RelS.tx {W W1 : Wl} {σd : SD} {σ : St} (x : Tx W W1) (h : RelS W σd σ) : RelS W1 σd σ := ⟨h.len, fun i d e => by obtain ⟨v, e', r⟩ := h.get i d e; exact ⟨v, e', r.tx x⟩⟩
theorem RelX.tx {W W1 : Wl} {x : Xc} {cls : Value} {dd : Option Addr} (t : Tx W W1) (hx : ∀ a f, W.H a = some (.xd f) → W1.H a = some (.xd f)) (h : RelX N W x cls dd) : RelX N W1 x cls dd := by
  obtain ⟨h1, h2⟩ := h
  refine ⟨h1, ?_⟩
  cases e : x.p with
  | none => rw [e] at h2; exact h2
  | some d => rw [e] at h2; obtain ⟨a, v, q1, q2, q3⟩ := h2; exact ⟨a, v, q1, hx a _ q2, q3.tx t⟩
/-- what is wanted behind, where a cell is frozen meanwhile -/
def KS.thaw (k : KS) (it : Its) : KS := ⟨fun σ η => k.nx σ (it.un η), fun d η => k.rt d (it.un η), fun σ η => k.bk σ (it.un η), fun σ η => k.ct σ (it.un η), fun x η => k.xc x (it.un η)⟩
theorem Sk.thaw {K : PySem.W.Frag} {W : Wl} {k : KS} {Z : Ends} {it : Its} (o : W.Ok K N.toNames) (h : FzOk W it) (hk : Sk K N E W k Z) : Sk K N E (it.w W) (k.thaw it) Z where
  nx := fun W1 σd σ x o1 s e => by
    obtain ⟨x2, o2⟩ := Its.thaw o h x o1
    exact hk.nx ⟨W1.μ, it.un W1.η, W1.H⟩ σd σ x2 o2 (s.tx (thaw_tx it)) e
  rt := fun W1 d v x o1 r e => by
    obtain ⟨x2, o2⟩ := Its.thaw o h x o1
    exact hk.rt ⟨W1.μ, it.un W1.η, W1.H⟩ d v x2 o2 (r.tx (thaw_tx it)) e
  bk := fun W1 σd σ x o1 s e => by
    obtain ⟨x2, o2⟩ := Its.thaw o h x o1
    exact hk.bk ⟨W1.μ, it.un W1.η, W1.H⟩ σd σ x2 o2 (s.tx (thaw_tx it)) e
  ct := fun W1 σd σ x o1 s e => by
    obtain ⟨x2, o2⟩ := Its.thaw o h x o1
    exact hk.ct ⟨W1.μ, it.un W1.η, W1.H⟩ σd σ x2 o2 (s.tx (thaw_tx it)) e
  xc := fun W1 xx cls dd x o1 r e => by
    obtain ⟨x2, o2⟩ := Its.thaw o h x o1
    exact hk.xc ⟨W1.μ, it.un W1.η, W1.H⟩ xx cls dd x2 o2 (r.tx (thaw_tx it) fun _ _ e => e) e

/-! ### the sources -/
/-- a list or a tuple -/
def iSeq (K : PySem.W.Frag) (tl : TE) : TI := fun σ H R => tl σ H fun x H1 => (∃ a, x = .ref a ∧ (∃ xs, SqL K H1 a xs) ∧ R (Itl K a) H1) ∨ (∃ a, x = .ref a ∧ (∃ xs, SqT K H1 a xs) ∧ R (Itt K a) H1)
theorem pi_seq {tg l : Expr} {tl : TE} (hl : PE X l tl) : PI X tg l (iSeq X.K tl) := by
  refine ⟨fun pins s σ H R I h => ?_⟩
  refine thn (hl.run pins s σ H _ I h) fun v s1 ⟨x, H1, I1, r1, q1⟩ => ?_
  rcases q1 with ⟨a, e, ⟨xs, hq⟩, q⟩ | ⟨a, e, ⟨xs, hq⟩, q⟩
  · subst e
    cases r1
    obtain ⟨its, rv, p, hz⟩ := I1.list hq
    refine wpAny_pyIter_list p.isList ?_
    refine ⟨s1.heap.objs.size, [s1.heap.objs.size], _, _, H1, rfl, I1.kept (t' := s1.toks) fun b o e => Heap.get?_push_of_some _ e, turn_list a _, ⟨_, Heap.get?_push_size _ rfl, rfl, rfl⟩, fun b hb => ?_, q⟩
    have e : b = s1.heap.objs.size := by simpa using hb
    subst e
    exact I1.fpOk (Nat.le_refl _) (I1.hok.fresh (Nat.le_refl _))
  · subst e
    cases r1
    obtain ⟨its, rv, p, hz⟩ := I1.tuple hq
    refine wpAny_pyIter_tuple (show s1.heap.IsTuple a its.toArray from p) ?_
    refine ⟨s1.heap.objs.size, [s1.heap.objs.size], _, _, H1, rfl, I1.kept (t' := s1.toks) fun b o e => Heap.get?_push_of_some _ e, turn_tuple a _, ⟨_, Heap.get?_push_size _ rfl, rfl, rfl⟩, fun b hb => ?_, q⟩
    have e : b = s1.heap.objs.size := by simpa using hb
    subst e
    exact I1.fpOk (Nat.le_refl _) (I1.hok.fresh (Nat.le_refl _))
/-- what a value gives to walk -/
def itsOf (η : Hd) : D → Option Its
  | .tup l => some ⟨l, none⟩
  | .ref r => match η.get r with
    | some (.lst l) => some ⟨l, some (r, l)⟩
    | some (.frz l) => some ⟨l, none⟩
    | _ => none
  | _ => none
def ciSeq (c : CE) : CI := fun σ η k kx => c σ η (fun d η1 => match itsOf η1 d with
  | some it => k it η1
  | none => false) kx
/-- a list that stays -/
theorem walkD_list {K : PySem.W.Frag} {Wf : Wl} {a : Addr} {l : List D} {vs : List V} (st : ∀ W1, Sty Wf W1 → W1.H a = some (.lst vs)) (r : RelDs Wf l vs) : WalkD K N Wf l (Itl K a) := by
  have hl := r.length
  refine ⟨fun W1 i x o hi => ?_, fun W1 x o => ?_, fun W1 i y H' x o hi hy => ?_⟩
  · exact ⟨vs, vs[i]'(by omega), SqL.of (st W1 x), by simp [show i < vs.length by omega]⟩
  · exact ⟨vs, SqL.of (st W1 x), by omega⟩
  · obtain ⟨e1, e2⟩ := hy
    obtain ⟨d, e3, e4⟩ := (r.tx x.tx).get (e2 vs (SqL.of (st W1 x)))
    exact ⟨W1, d, e3, Ext.refl W1, o, e1.symm, rfl, e4⟩
theorem walkD_tup {K : PySem.W.Frag} {Wf : Wl} {a : Addr} {l : List D} {vs : List V} (h : Wf.H a = some (.tup vs)) (r : RelDs Wf l vs) : WalkD K N Wf l (Itt K a) := by
  have hl := r.length
  refine ⟨fun W1 i x o hi => ?_, fun W1 x o => ?_, fun W1 i y H' x o hi hy => ?_⟩
  · exact ⟨vs, vs[i]'(by omega), SqT.of (x.tx.tp _ _ h), by simp [show i < vs.length by omega]⟩
  · exact ⟨vs, SqT.of (x.tx.tp _ _ h), by omega⟩
  · obtain ⟨e1, e2⟩ := hy
    obtain ⟨d, e3, e4⟩ := (r.tx x.tx).get (e2 vs (SqT.of (x.tx.tp _ _ h)))
    exact ⟨W1, d, e3, Ext.refl W1, o, e1.symm, rfl, e4⟩
theorem its_walk {K : PySem.W.Frag} {W : Wl} {d : D} {v : V} {it : Its} (o : W.Ok K N.toNames) (r : RelD W d v) (h : itsOf W.η d = some it) : FzOk W it ∧
    ((∃ a, v = .ref a ∧ (∃ xs, SqL K W.H a xs) ∧ WalkD K N (it.w W) it.l (Itl K a)) ∨ (∃ a, v = .ref a ∧ (∃ xs, SqT K W.H a xs) ∧ WalkD K N (it.w W) it.l (Itt K a))) := by
  cases d with
  | tup l =>
    cases h
    obtain ⟨a, vs, rfl, hs, rs⟩ := relTup r
    exact ⟨(fun r l e => nomatch e), .inr ⟨a, rfl, ⟨vs, SqT.of hs⟩, walkD_tup (Wf := W) hs rs⟩⟩
  | ref q =>
    simp only [itsOf] at h
    cases e : W.η.get q with
    | none => rw [e] at h; cases h
    | some c =>
      rw [e] at h
      rw [relRef r]
      cases c with
      | lst l =>
        cases h
        have fz : FzOk W ⟨l, some (q, l)⟩ := fun r l' e' => by cases e'; exact e
        obtain ⟨vs, h1, h2, h3⟩ := o.cell q _ e
        obtain ⟨xf, of⟩ := Its.froze o fz
        have gq : (Its.w ⟨l, some (q, l)⟩ W).η.get q = some (.frz l) := by
          show (frzAt q l W.η).get q = some (.frz l)
          unfold frzAt
          rw [Hd.get_set, if_pos rfl, e]; rfl
        exact ⟨fz, .inl ⟨_, rfl, ⟨vs, SqL.of h1⟩, walkD_list (fun W1 x => x.fz q l _ gq h1) (h2.mono o xf)⟩⟩
      | frz l =>
        cases h
        obtain ⟨vs, h1, h2, h3⟩ := o.cell q _ e
        exact ⟨(fun r l e => nomatch e), .inl ⟨_, rfl, ⟨vs, SqL.of h1⟩, walkD_list (Wf := W) (fun W1 x => x.fz q l _ e h1) h2⟩⟩
      | _ => cases h
  | _ => cases h
theorem ji_seq {tg e : Expr} {c : CE} (h : JE X N E e c) : JI X N E tg e (ciSeq c) := PI.imp (pi_seq h) fun σ H R q => by
  obtain ⟨W, σd, k, kx, rfl, o, s, h, hk, hx⟩ := q
  refine tE.bind o s hx h fun W1 d v x1 o1 r1 s1 hx1 h1 => ?_
  cases e : itsOf W1.η d with
  | none => rw [e] at h1; cases h1
  | some it =>
    rw [e] at h1
    obtain ⟨fz, h | h⟩ := its_walk o1 r1 e
    · obtain ⟨a, e1, e2, e3⟩ := h
      exact .inl ⟨a, e1, e2, hk W1 it _ x1 o1 fz e3 h1⟩
    · obtain ⟨a, e1, e2, e3⟩ := h
      exact .inr ⟨a, e1, e2, hk W1 it _ x1 o1 fz e3 h1⟩
/-- range -/
def rangeD : Nat → Int → List D
  | 0, _ => []
  | n + 1, i => .int i :: rangeD n (i + 1)
theorem rangeD_len : ∀ (n : Nat) (i : Int), (rangeD n i).length = n
  | 0, _ => rfl
  | n + 1, i => by rw [rangeD, List.length_cons, rangeD_len n (i + 1)]
theorem rangeD_get : ∀ (n : Nat) (i : Int) (k : Nat), k < n → (rangeD n i)[k]? = some (.int (i + k))
  | 0, _, k, h => absurd h (by omega)
  | n + 1, i, 0, h => by rw [rangeD]; simp
  | n + 1, i, k + 1, h => by
    rw [rangeD]
    show (rangeD n (i + 1))[k]? = _
    rw [rangeD_get n (i + 1) k (by omega)]
    congr 2; omega
def rOk (i : Int) : Bool := Nat.ble i.natAbs 1000000000000000000
theorem rOk_ok {i : Int} (h : rOk i = true) : -(2 ^ 62) ≤ i ∧ i < 2 ^ 62 := by
  have := Nat.le_of_ble_eq_true h
  omega
def ciR1 (a : CA) : CI := fun σ η k kx => a σ η (fun ds η1 => match ds with
  | [.int j] => match rOk j with
    | true => k ⟨rangeD j.toNat 0, none⟩ η1
    | false => false
  | _ => false) kx
def ciR2 (a : CA) : CI := fun σ η k kx => a σ η (fun ds η1 => match ds with
  | [.int i, .int j] => match rOk i, rOk j with
    | true, true => k ⟨rangeD (j - i).toNat i, none⟩ η1
    | _, _ => false
  | _ => false) kx
theorem walkD_range {K : PySem.W.Frag} {Wf : Wl} {n : Nat} {i : Int} : WalkD K N Wf (rangeD n i) (Itr i n) := by
  refine ⟨fun W1 k x o hi => ?_, fun W1 x o => ?_, fun W1 k y H' x o hi hy => ?_⟩
  · rw [rangeD_len] at hi; exact hi
  · rw [rangeD_len]; exact Nat.le_refl _
  · obtain ⟨e1, e2⟩ := hy
    rw [rangeD_len] at hi
    exact ⟨W1, .int (i + k), rangeD_get n i k hi, Ext.refl W1, o, e1.symm, rfl, by rw [e2]; exact mkInt⟩
theorem ji_range1 {tg a : Expr} {ca : CA} {p pos : Pos} (hg : Gl X "range") (hm : X.mg "range" = none) (ha : JA X N E [a] ca) (hs : starEach [a] X.env = [(false, eval a X.env)] := by rfl) : JI X N E tg (.Call (.Name "range" p) [a] [] pos) (ciR1 ca) :=
  PI.imp (pi_range1 hg hm ha hs) fun σ H R q => by
    obtain ⟨W, σd, k, kx, rfl, o, s, h, hk, hx⟩ := q
    refine tAr.bind o s hx h fun W1 ds vs x1 o1 r1 s1 hx1 h1 => ?_
    match ds, r1, h1 with
    | [.int j], r1, h1 =>
      simp only at h1
      cases e : rOk j with
      | false => rw [e] at h1; cases h1
      | true =>
        rw [e] at h1
        obtain ⟨v, rfl, r⟩ := rel1 r1
        rw [relInt r]
        exact ⟨j, rfl, (rOk_ok e).1, (rOk_ok e).2, hk W1 _ _ x1 o1 (by intro r l e; cases e) walkD_range h1⟩
    | [], _, h1 => cases h1
    | [.non], _, h1 => cases h1
    | [.bl _], _, h1 => cases h1
    | [.str _], _, h1 => cases h1
    | [.tup _], _, h1 => cases h1
    | [.ref _], _, h1 => cases h1
    | _ :: _ :: _, _, h1 => simp at h1
theorem ji_range2 {tg a b : Expr} {ca : CA} {p pos : Pos} (hg : Gl X "range") (hm : X.mg "range" = none) (ha : JA X N E [a, b] ca) (hs : starEach [a, b] X.env = [(false, eval a X.env), (false, eval b X.env)] := by rfl) (hs2 : starEach [b] X.env = [(false, eval b X.env)] := by rfl) : JI X N E tg (.Call (.Name "range" p) [a, b] [] pos) (ciR2 ca) :=
  PI.imp (pi_range2 hg hm ha hs hs2) fun σ H R q => by
    obtain ⟨W, σd, k, kx, rfl, o, s, h, hk, hx⟩ := q
    refine tAr.bind o s hx h fun W1 ds vs x1 o1 r1 s1 hx1 h1 => ?_
    match ds, r1, h1 with
    | [x, y], r1, h1 =>
      obtain ⟨v, u, rfl, ra, rb⟩ := rel2 r1
      cases x with
      | int i =>
        cases y with
        | int j =>
          simp only at h1
          cases e : rOk i with
          | false => rw [e] at h1; cases h1
          | true =>
            cases e2 : rOk j with
            | false => rw [e, e2] at h1; cases h1
            | true =>
              rw [e, e2] at h1
              rw [relInt ra, relInt rb]
              exact ⟨i, j, rfl, ⟨(rOk_ok e).1, (rOk_ok e).2, (rOk_ok e2).1, (rOk_ok e2).2⟩, hk W1 _ _ x1 o1 (by intro r l e; cases e) walkD_range h1⟩
        | _ => cases h1
      | _ => cases h1
    | [], _, h1 => cases h1
    | [_], _, h1 => simp at h1
    | _ :: _ :: _ :: _, _, h1 => simp at h1
/-- reversed(list or tuple) -/
def itsRev (η : Hd) (d : D) : Option Its := match itsOf η d with
  | some it => some ⟨it.l.reverse, it.fz⟩
  | none => none
def ciRev (c : CE) : CI := fun σ η k kx => c σ η (fun d η1 => match itsRev η1 d with
  | some it => k it η1
  | none => false) kx
theorem rev_get {W : Wl} {l : List D} {vs : List V} {i : Nat} {x : V} (r : RelDs W l vs) (hi : i < l.length) (h : vs[vs.length - 1 - i]? = some x) : ∃ d, l.reverse[i]? = some d ∧ RelD W d x := by
  obtain ⟨d, e1, e2⟩ := r.get h
  refine ⟨d, ?_, e2⟩
  rw [List.getElem?_reverse hi, r.length]; exact e1
theorem ji_rev {tg e : Expr} {c : CE} {p pos : Pos} (hg : Gl X "reversed") (hm : X.mg "reversed" = none) (he : JE X N E e c) (hs : starEach [e] X.env = (false, eval e X.env) :: starEach [] X.env := by rfl) : JI X N E tg (.Call (.Name "reversed" p) [e] [] pos) (ciRev c) :=
  PI.imp (RT.pi_revA hg hm he hs) fun σ H R q => by
    obtain ⟨W, σd, k, kx, rfl, o, s, h, hk, hx⟩ := q
    refine tE.bind o s hx h fun W1 d v x1 o1 r1 s1 hx1 h1 => ?_
    unfold itsRev at h1
    cases e : itsOf W1.η d with
    | none => rw [e] at h1; cases h1
    | some it =>
      rw [e] at h1
      simp only at h1
      cases d with
      | tup l =>
        cases e
        obtain ⟨a, vs, rfl, hs, rs⟩ := relTup r1
        refine ⟨a, vs, rfl, .inr ⟨SqT.of hs, hk W1 ⟨l.reverse, none⟩ _ x1 o1 (fun r l e => nomatch e) ?_ h1⟩⟩
        have hl := rs.length
        refine ⟨fun W2 i x o hi => ?_, fun W2 x o => ?_, fun W2 i y H' x o hi hy => ?_⟩
        · rw [List.length_reverse] at hi
          exact ⟨by omega, vs, vs[vs.length - 1 - i]'(by omega), SqT.of (x.tx.tp _ _ hs), by simp [show vs.length - 1 - i < vs.length by omega]⟩
        · show vs.length ≤ l.reverse.length
          rw [List.length_reverse]; omega
        · rw [List.length_reverse] at hi
          obtain ⟨e1, e2⟩ := hy
          obtain ⟨d, e3, e4⟩ := rev_get (rs.tx x.tx) hi (e2 vs (SqT.of (x.tx.tp _ _ hs)))
          exact ⟨W2, d, e3, Ext.refl W2, o, e1.symm, rfl, e4⟩
      | ref q =>
        rw [relRef r1]
        have go : ∀ (it : Its) (vs : List V), FzOk W1 it → W1.H (W1.μ q) = some (.lst vs) → RelDs (it.w W1) it.l vs → (it.w W1).Ok X.K N.toNames → (∀ W2, Sty (it.w W1) W2 → W2.H (W1.μ q) = some (.lst vs)) → k ⟨it.l.reverse, it.fz⟩ W1.η = true → RT.iRevA X.K (fun σ H Q => Q (.ref (W1.μ q)) H) σ W1.H R := by
          intro it vs fz h1 rs of st hk1
          have hl := rs.length
          refine ⟨W1.μ q, vs, rfl, .inl ⟨SqL.of h1, hk W1 ⟨it.l.reverse, it.fz⟩ _ x1 o1 fz ?_ hk1⟩⟩
          show WalkD X.K N (it.w W1) it.l.reverse (Itv X.K (W1.μ q) vs.length)
          refine ⟨fun W2 i x o hi => ?_, fun W2 x o => ?_, fun W2 i y H' x o hi hy => ?_⟩
          · rw [List.length_reverse] at hi
            exact ⟨by omega, vs, vs[vs.length - 1 - i]'(by omega), SqL.of (st W2 x), by simp [show vs.length - 1 - i < vs.length by omega]⟩
          · show vs.length ≤ it.l.reverse.length
            rw [List.length_reverse]; omega
          · rw [List.length_reverse] at hi
            obtain ⟨e1, e2⟩ := hy
            obtain ⟨d, e3, e4⟩ := rev_get (rs.tx x.tx) hi (e2 vs (SqL.of (st W2 x)))
            exact ⟨W2, d, e3, Ext.refl W2, o, e1.symm, rfl, e4⟩
        simp only [itsOf] at e
        cases eg : W1.η.get q with
        | none => rw [eg] at e; cases e
        | some c =>
          rw [eg] at e
          cases c with
          | lst l =>
            cases e
            have fz : FzOk W1 ⟨l, some (q, l)⟩ := fun r l' e' => by cases e'; exact eg
            obtain ⟨vs, g1, g2, g3⟩ := o1.cell q _ eg
            obtain ⟨xf, of⟩ := Its.froze o1 fz
            have gq : (Its.w ⟨l, some (q, l)⟩ W1).η.get q = some (.frz l) := by
              show (frzAt q l W1.η).get q = some (.frz l)
              unfold frzAt
              rw [Hd.get_set, if_pos rfl, eg]; rfl
            exact go ⟨l, some (q, l)⟩ vs fz g1 (g2.mono o1 xf) of (fun W2 x => x.fz q l _ gq g1) h1
          | frz l =>
            cases e
            obtain ⟨vs, g1, g2, g3⟩ := o1.cell q _ eg
            exact go ⟨l, none⟩ vs (fun r l e => nomatch e) g1 g2 o1 (fun W2 x => x.fz q l _ eg g1) h1
          | _ => cases e
      | _ => cases e

/-! ### for -/
def forD (g : CG) (b : CS) (k : KS) : List D → SD → Hd → Bool
  | [], σ, η => k.nx σ η
  | d :: ds, σ, η => g d σ η (fun σ1 η1 => b σ1 η1 { k with nx := forD g b k ds, ct := forD g b k ds, bk := k.nx }) k.xc
def sFor (i : CI) (g : CG) (b : CS) : CS := fun σ η k => i σ η (fun it η1 => forD g b (k.thaw it) it.l σ (it.fr η1)) k.xc
theorem js_for {tg iter : Expr} {body : List Stmt} {ci : CI} {g : CG} {b : CS} {pos : Pos} (hp : PassesOwn (model X.prog X.w) X.A X.env X.xe) (hc : X.calm = true) (hi : JI X N E tg iter ci) (hg : JG X N E tg g) (hb : JB X N E body b)
    (hs : ∀ x, foldedSetIterable iter X.env x = pure x := by intro _; rfl) : JS X N E (.For tg iter body [] pos) (sFor ci g b) := PS.imp (ps_for hp hc hi hg hb hs) fun Z σ H q => by
  obtain ⟨W, σd, k, rfl, o, s, h, hk⟩ := q
  refine ⟨W, σd, _, k.xc, rfl, o, s, h, fun W1 it J x1 o1 fz wk h1 => ?_, hk.xc⟩
  obtain ⟨xf, of⟩ := Its.froze o1 fz
  have hk1 : Sk X.K N E (it.w W1) (k.thaw it) Z := (hk.mono o o1 x1).thaw o1 fz
  have s1 : RelS (it.w W1) σd σ := ((s.mono o x1).mono o1 xf)
  refine ⟨fun i m σ2 H2 => m = it.l.length - i ∧ i ≤ it.l.length ∧ ∃ W2 σd2, W2.H = H2 ∧ Ext (it.w W1) W2 ∧ W2.Ok X.K N.toNames ∧ RelS W2 σd2 σ2 ∧ forD g b (k.thaw it) (it.l.drop i) σd2 W2.η = true,
    ⟨it.l.length, by omega, Nat.zero_le _, it.w W1, σd, rfl, Ext.refl _, of, s1, h1⟩, ?_⟩
  rintro i m σ2 H2 ⟨rfl, hi, W2, σd2, rfl, x2, o2, s2, h2⟩
  by_cases hlt : i < it.l.length
  · refine .inr ⟨wk.go W2 i (x2.sty of) o2 hlt, fun σ3 H3 => ∃ W3 σd3, W3.H = H3 ∧ Ext (it.w W1) W3 ∧ W3.Ok X.K N.toNames ∧ RelS W3 σd3 σ3 ∧ forD g b (k.thaw it) (it.l.drop (i + 1)) σd3 W3.η = true, fun σ3 H3 p3 => ⟨it.l.length - (i + 1), by omega, rfl, hlt, p3⟩, fun y H3 hy => ?_⟩
    obtain ⟨W3, d, e3, x3, o3, eH, eη, r3⟩ := wk.yld W2 i y H3 (x2.sty of) o2 hlt hy
    subst eH
    have ed : it.l.drop i = d :: it.l.drop (i + 1) := by
      rw [List.drop_eq_getElem_cons hlt]
      have : it.l[i] = d := by
        have := List.getElem?_eq_getElem hlt
        rw [this] at e3; exact Option.some.inj e3
      rw [this]
    rw [ed] at h2
    have x03 := x2.trans of o2 x3
    have hk3 := hk1.mono of o3 x03
    refine ⟨W3, d, σd2, _, (k.thaw it).xc, rfl, o3, r3, s2.mono o2 x3, (by rw [eη]; exact h2), fun W4 σd4 σ4 x4 o4 s4 h4 => ?_, hk3.xc⟩
    have hk4 := hk3.mono o3 o4 x4
    have x04 := x03.trans of o3 x4
    exact ⟨W4, σd4, _, rfl, o4, s4, h4, ⟨fun W5 σd5 σ5 x5 o5 s5 h5 => ⟨W5, σd5, rfl, x04.trans of o4 x5, o5, s5, h5⟩, hk4.rt, hk4.nx, fun W5 σd5 σ5 x5 o5 s5 h5 => ⟨W5, σd5, rfl, x04.trans of o4 x5, o5, s5, h5⟩, hk4.xc⟩⟩
  · have e : i = it.l.length := by omega
    subst e
    rw [List.drop_length] at h2
    exact .inl ⟨wk.stop W2 (x2.sty of) o2, hk1.nx W2 σd2 σ2 x2 o2 s2 h2⟩

/-! ### while -/
def whileD (t : CT) (b : CS) (k : KS) : Nat → SD → Hd → Bool
  | 0, _, _ => false
  | n + 1, σ, η => t σ η (fun x η1 => match x with
    | true => b σ η1 { k with nx := whileD t b k n, ct := whileD t b k n, bk := k.nx }
    | false => k.nx σ η1) k.xc
def fuelW : Nat := 1000000
def sWhile (t : CT) (b : CS) : CS := fun σ η k => whileD t b k fuelW σ η
theorem js_while {c : Expr} {body : List Stmt} {t : CT} {b : CS} {pos : Pos} (hp : PassesOwn (model X.prog X.w) X.A X.env X.xe) (hc : JT X N E c t) (hb : JB X N E body b) : JS X N E (.While c body [] pos) (sWhile t b) := PS.imp (ps_while hp hc hb) fun Z σ H q => by
  obtain ⟨W, σd, k, rfl, o, s, h, hk⟩ := q
  refine ⟨fun m σ2 H2 => ∃ W2 σd2, W2.H = H2 ∧ Ext W W2 ∧ W2.Ok X.K N.toNames ∧ RelS W2 σd2 σ2 ∧ whileD t b k m σd2 W2.η = true, ⟨fuelW, W, σd, rfl, Ext.refl W, o, s, h⟩, ?_⟩
  rintro m σ2 H2 ⟨W2, σd2, rfl, x2, o2, s2, h2⟩
  cases m with
  | zero => cases h2
  | succ m =>
    have hk2 := hk.mono o o2 x2
    refine tT.bind o2 s2 hk2.xc h2 fun W3 y x3 o3 s3 hx3 h3 => ?_
    have x03 := x2.trans o o2 x3
    have hk3 := hk2.mono o2 o3 x3
    cases y with
    | true =>
      rw [if_pos rfl]
      refine ⟨fun σ4 H4 => ∃ W4 σd4, W4.H = H4 ∧ Ext W W4 ∧ W4.Ok X.K N.toNames ∧ RelS W4 σd4 σ4 ∧ whileD t b k m σd4 W4.η = true, fun σ4 H4 p => ⟨m, Nat.lt_succ_self m, p⟩, ?_⟩
      exact ⟨W3, σd2, _, rfl, o3, s3, h3, ⟨fun W5 σd5 σ5 x5 o5 s5 h5 => ⟨W5, σd5, rfl, x03.trans o o3 x5, o5, s5, h5⟩, hk3.rt, hk3.nx, fun W5 σd5 σ5 x5 o5 s5 h5 => ⟨W5, σd5, rfl, x03.trans o o3 x5, o5, s5, h5⟩, hk3.xc⟩⟩
    | false =>
      rw [if_neg (by decide)]
      exact hk3.nx W3 σd2 σ2 (Ext.refl W3) o3 s3 h3
end
end DL

/-! comprehensions -/
namespace DL
open PySem PySem.Spec L2
section
variable {X : Cx} {N : Nm} {E : XK}
/-! ### targets that store to slots of vs alone -/
def tGw (K : PySem.W.Frag) (N : Nm) (vs : List Nat) (c : CG) : TG := fun v σ H Q => ∃ W d σd k, W.H = H ∧ W.Ok K N.toNames ∧ RelD W d v ∧ RelS W σd σ ∧ c d σd W.η k (fun _ _ => false) = true ∧
  (∀ W' σd' σ', Ext W W' → W'.Ok K N.toNames → RelS W' σd' σ' → wipe σ' vs = wipe σ vs → k σd' W'.η = true → Q σ' W'.H)
def tGsw (K : PySem.W.Frag) (N : Nm) (vs : List Nat) (c : CGs) : TGs := fun us σ H Q => ∃ W ds σd k, W.H = H ∧ W.Ok K N.toNames ∧ RelDs W ds us ∧ RelS W σd σ ∧ c ds σd W.η k (fun _ _ => false) = true ∧
  (∀ W' σd' σ', Ext W W' → W'.Ok K N.toNames → RelS W' σd' σ' → wipe σ' vs = wipe σ vs → k σd' W'.η = true → Q σ' W'.H)
def JGw (X : Cx) (N : Nm) (vs : List Nat) (e : Expr) (c : CG) : Prop := PG X e (tGw X.K N vs c)
def JGsw (X : Cx) (N : Nm) (vs : List Nat) (e : List Expr) (c : CGs) : Prop := PGs X e (tGsw X.K N vs c)
theorem set_comm' {α : Type} (l : List α) (i j : Nat) (a b : α) (h : i ≠ j) : (l.set i a).set j b = (l.set j b).set i a := List.set_comm a b h
theorem wipe_set : ∀ (vs : List Nat) (σ : St) (i : Nat) (x : Option V), i ∈ vs → wipe (σ.set i x) vs = wipe σ vs
  | [], σ, i, x, h => nomatch h
  | v :: vs, σ, i, x, h => by
    by_cases z : i ∈ vs
    · show (wipe (σ.set i x) vs).set v none = (wipe σ vs).set v none
      rw [wipe_set vs σ i x z]
    · have e : i = v := by
        rcases List.mem_cons.mp h with e | e
        · exact e
        · exact absurd e z
      subst e
      show (wipe (σ.set i x) vs).set i none = (wipe σ vs).set i none
      have gen : ∀ (vs : List Nat) (σ : St), i ∉ vs → (wipe (σ.set i x) vs).set i none = (wipe σ vs).set i none := by
        intro vs
        induction vs with
        | nil => intro σ _; show (σ.set i x).set i none = σ.set i none; exact List.set_set _
        | cons u us ih =>
          intro σ hn
          have hu : u ≠ i := fun z => hn (by rw [z]; exact List.mem_cons_self)
          have hus : i ∉ us := fun z => hn (List.mem_cons_of_mem _ z)
          show ((wipe (σ.set i x) us).set u none).set i none = ((wipe σ us).set u none).set i none
          rw [set_comm' _ _ _ _ _ hu, set_comm' _ _ _ _ _ hu, ih σ hus]
      exact gen vs σ z
theorem wipe_wipe : ∀ (us : List Nat) (σ : St), wipe (wipe σ us) us = wipe σ us := by
  intro us
  induction us with
  | nil => intro σ; rfl
  | cons u us ih =>
    intro σ
    show (wipe ((wipe σ us).set u none) us).set u none = (wipe σ us).set u none
    by_cases z : u ∈ us
    · rw [wipe_set us _ u none z, ih]
    · have gen : ∀ (us : List Nat) (σ : St), u ∉ us → wipe (σ.set u none) us = (wipe σ us).set u none := by
        intro us
        induction us with
        | nil => intro σ _; rfl
        | cons a us ih2 =>
          intro σ hn
          have ha : u ≠ a := fun z => hn (by rw [z]; exact List.mem_cons_self)
          show (wipe (σ.set u none) us).set a none = ((wipe σ us).set a none).set u none
          rw [ih2 σ (fun z => hn (List.mem_cons_of_mem _ z)), set_comm' _ _ _ _ _ ha]
      rw [gen us _ z, ih, List.set_set]
theorem jgw_name {vs : List Nat} {i : Nat} {x : Str} {pos : Pos} (h : PG X (.Name x pos) (gName i)) (hi : i ∈ vs := by decide) : JGw X N vs (.Name x pos) (gNm i) := PG.imp h fun v σ H Q q => by
  obtain ⟨W, d, σd, k, rfl, o, r, s, h, hk⟩ := q
  exact hk W _ _ (Ext.refl W) o (s.set i r) (wipe_set vs σ i _ hi) h
theorem jgsw_nil {vs : List Nat} : JGsw X N vs [] gsNil := PGs.imp pgs_nil fun v σ H Q q => by
  obtain ⟨W, ds, σd, k, rfl, o, r, s, h, hk⟩ := q
  cases ds with
  | nil => rw [RelDs] at r; exact ⟨r, hk W _ _ (Ext.refl W) o s rfl h⟩
  | cons _ _ => cases h
theorem jgsw_cons {vs : List Nat} {e : Expr} {es : List Expr} {g : CG} {r : CGs} (hg : JGw X N vs e g) (hr : JGsw X N vs es r) (ha : ((assignEach (e :: es) X.env).map (·.2)) = assign e X.env :: ((assignEach es X.env).map (·.2)) := by rfl) : JGsw X N vs (e :: es) (gsCons g r) := PGs.imp (pgs_cons hg hr ha) fun v σ H Q q => by
  obtain ⟨W, ds, σd, k, rfl, o, rr, s, h, hk⟩ := q
  cases ds with
  | nil => cases h
  | cons d ds =>
    rw [RelDs] at rr
    obtain ⟨v, vs', rfl, r1, r2⟩ := rr
    exact ⟨v, vs', rfl, W, d, σd, _, rfl, o, r1, s, h, fun W1 σd1 σ1 x1 o1 s1 w1 h1 => ⟨W1, ds, σd1, k, rfl, o1, r2.mono o x1, s1, h1, fun W2 σd2 σ2 x2 o2 s2 w2 h2 => hk W2 σd2 σ2 (x1.trans o o1 x2) o2 s2 (w2.trans w1) h2⟩⟩
theorem jgw_tup {vs : List Nat} {es : List Expr} {kk : Nat} {pos : Pos} {r : CGs} {n : Nat} (hc : X.calm = true) (h : JGsw X N vs es r) (hl : (assignEach es X.env).length = n := by rfl) (hf : (assignEach es X.env).findIdx? (·.1) = none := by rfl) : JGw X N vs (.Tuple es kk pos) (gTp n r) :=
  PG.imp (pg_tup (n := n) hc h hl hf) fun v σ H Q q => by
    obtain ⟨W, d, σd, k, rfl, o, rr, s, h, hk⟩ := q
    cases d with
    | tup ds =>
      simp only [gTp] at h
      cases e : Nat.beq ds.length n with
      | false => rw [e] at h; cases h
      | true =>
        rw [e] at h
        obtain ⟨a, vs', rfl, hs, rs⟩ := relTup rr
        exact ⟨a, vs', rfl, SqT.of hs, by rw [← rs.length]; exact Nat.eq_of_beq_eq_true e, W, ds, σd, k, rfl, o, rs, s, h, hk⟩
    | _ => cases h
/-! ### the tests -/
def JTs (X : Cx) (N : Nm) (E : XK) (ifs : List Expr) (c : CT) : Prop := PTs X ifs (tT X.K N E c)
theorem PTs.imp {ifs : List Expr} {t t' : TT} (h : PTs X ifs t) (f : ∀ σ H Q, t' σ H Q → t σ H Q) : PTs X ifs t' := ⟨fun pins s σ H Q I q => h.run pins s σ H Q I (f σ H Q q)⟩
def ctYes : CT := fun _ η k _ => k true η
theorem jts_nil : JTs X N E [] ctYes := PTs.imp pts_nil fun σ H Q q => by
  obtain ⟨W, σd, k, kx, rfl, o, s, h, hk, hx⟩ := q
  exact hk W true (Ext.refl W) o h
theorem jts_one {c : Expr} {t : CT} (h : JT X N E c t) : JTs X N E [c] t := pts_one h
/-! ### the block -/
def wipeD (σ : SD) : List Nat → SD
  | [] => σ
  | v :: vs => (wipeD σ vs).set v none
theorem RelS.wipe {W : Wl} {σd : SD} {σ : St} (h : RelS W σd σ) : ∀ vs : List Nat, RelS W (wipeD σd vs) (L2.wipe σ vs)
  | [] => h
  | v :: vs => (RelS.wipe h vs).none_at v none
def kF : KX := fun _ _ => false
theorem Xk.never {K : PySem.W.Frag} {W : Wl} : Xk K N E W kF := fun _ _ _ _ _ _ _ h => nomatch h
def lcD (g : CG) (t : CT) (e : CE) (σ : SD) (k : List D → Hd → Bool) : List D → Nat → List D → Hd → Bool
  | [], _, acc, η => k acc.reverse η
  | _ :: _, 0, _, _ => false
  | d :: ds, n + 1, acc, η => g d σ η (fun σ1 η1 => t σ1 η1 (fun b η2 => match b with
    | true => e σ1 η2 (fun y η3 => lcD g t e σ k ds n (y :: acc) η3) kF
    | false => lcD g t e σ k ds n acc η2) kF) kF
def Hd.bump (η : Hd) : Hd := ⟨Nat.succ η.nx, η.cs⟩
def line1 : Nat := 16777215
def cLc (i : CI) (g : CG) (t : CT) (e : CE) (vs : List Nat) : CE := fun σ η kv kx => i σ η (fun it η1 => lcD g t e (wipeD σ vs) (fun acc η2 => kv (.ref η1.nx) ((it.un η2).add η1.nx (.lst acc))) it.l line1 [] (Hd.bump (it.fr η1))) kx
/-- the worlds of a comprehension's loop: the list's own cell g laid aside -/
structure Lc (K : PySem.W.Frag) (N : Nm) (Wb : Wl) (g : Nat) (Da : Addr) (W : Wl) (acc : List D) : Prop where
  ok : W.Ok K N.toNames
  off : W.η.get g = none
  x : Ext Wb ⟨W.μ, W.η.add g (.lst acc.reverse), W.H⟩
  og : Wl.Ok K N.toNames ⟨W.μ, W.η.add g (.lst acc.reverse), W.H⟩
  at_ : W.μ g = Da
theorem Lc.drop {K : PySem.W.Frag} {Wb W0 : Wl} {g : Nat} {Da : Addr} {W : Wl} {acc : List D} (h : Lc K N Wb g Da W acc) (ob : Wb.Ok K N.toNames) (o0 : W0.Ok K N.toNames) (x0 : Ext W0 Wb) : Ext W0 W := by
  have := (x0.trans o0 ob h.x).drop (η' := W.η) h.og rfl (fun r c e => by
    show (W.η.add g (.lst acc.reverse)).get r = some c
    rw [Hd.get_add]
    by_cases z : r = g
    · rw [z, h.off] at e; cases e
    · rw [if_neg z]; exact e)
  exact this.1
theorem Hd.set_add (η : Hd) (g : Nat) (c c' : Cell) : (η.add g c).set g c' = η.add g c' := by
  unfold Hd.add Hd.set put
  simp [Nat.beq_refl]
/-- behind a step, the list's cell laid again and one item more -/
theorem Lc.grow {K : PySem.W.Frag} {Wb : Wl} {g : Nat} {Da : Addr} {W W2 : Wl} {acc : List D} {y : D} {v : V} (h : Lc K N Wb g Da W acc) (ob : Wb.Ok K N.toNames) (x : Ext W W2) (o2 : W2.Ok K N.toNames) (r : RelD W2 y v) (hl : acc.length < sizeLine) :
    ∃ vs, W2.H Da = some (.lst vs) ∧ vs.length < sizeLine ∧ Lc K N Wb g Da ⟨W2.μ, W2.η, upd W2.H Da (.lst (vs ++ [v]))⟩ (y :: acc) ∧ Tx W2 ⟨W2.μ, W2.η, upd W2.H Da (.lst (vs ++ [v]))⟩ := by
  have gg : (W.η.add g (.lst acc.reverse)).get g = some (.lst acc.reverse) := by rw [Hd.get_add, if_pos rfl]
  have gnx : g < W.η.nx := h.og.lt g _ gg
  obtain ⟨x2, og2⟩ := h.og.readd (W2 := W2) (g := g) gg (η0 := W.η) rfl (fun q => by
    show W.η.get q = if q = g then none else (W.η.add g (.lst acc.reverse)).get q
    by_cases z : q = g
    · rw [if_pos z, z, h.off]
    · rw [if_neg z, Hd.get_add, if_neg z]) x o2
  have gg2 : (W2.η.add g (.lst acc.reverse)).get g = some (.lst acc.reverse) := by rw [Hd.get_add, if_pos rfl]
  have ma : W2.μ g = Da := by rw [x.mu g gnx, h.at_]
  obtain ⟨vs, h1, h2, h3⟩ := og2.cell g _ gg2
  have h1' : W2.H Da = some (.lst vs) := by rw [← ma]; exact h1
  have hlen : vs.length = acc.length := by rw [← h2.length, List.length_reverse]
  have t2 : Tx W2 ⟨W2.μ, W2.η.add g (.lst acc.reverse), W2.H⟩ := ⟨Nat.le_refl _, fun _ _ => rfl, fun _ _ e => e⟩
  obtain ⟨x3, og3⟩ := og2.put (r := g) (c0 := .lst acc.reverse) (c := .lst (acc.reverse ++ [y])) (ob := .lst (vs ++ [v])) gg2 rfl (fun xx => ⟨_, upd_same, (h2.mono og2 xx).append (.cons ((r.tx t2).mono og2 xx) .nil), by rw [List.length_append, List.length_reverse]; show acc.length + 1 ≤ sizeLine; omega⟩)
  have eW : Wl.put ⟨W2.μ, W2.η.add g (.lst acc.reverse), W2.H⟩ g (.lst (acc.reverse ++ [y])) (.lst (vs ++ [v])) = ⟨W2.μ, W2.η.add g (.lst (y :: acc).reverse), upd W2.H Da (.lst (vs ++ [v]))⟩ := by
    unfold Wl.put
    show Wl.mk W2.μ ((W2.η.add g (.lst acc.reverse)).set g (.lst (acc.reverse ++ [y]))) (upd W2.H (W2.μ g) (.lst (vs ++ [v]))) = _
    rw [Hd.set_add, ma, List.reverse_cons]
  rw [eW] at x3 og3
  have off2 : W2.η.get g = none := by
    cases e : W2.η.get g with
    | none => rfl
    | some c =>
      rcases x.cs g c e with ⟨c0, e0, _⟩ | ⟨h4, _⟩
      · rw [h.off] at e0; cases e0
      · omega
  have xb : Ext Wb ⟨W2.μ, W2.η.add g (.lst (y :: acc).reverse), upd W2.H Da (.lst (vs ++ [v]))⟩ := (h.x.trans ob h.og x2).trans ob og2 x3
  have sub : ∀ r c, W2.η.get r = some c → (W2.η.add g (.lst (y :: acc).reverse)).get r = some c := fun r c e => by
    rw [Hd.get_add]
    by_cases z : r = g
    · rw [z, off2] at e; cases e
    · rw [if_neg z]; exact e
  have dr := xb.drop (η' := W2.η) og3 rfl sub
  refine ⟨vs, h1', by omega, ⟨dr.2, off2, xb, og3, ma⟩, Nat.le_refl _, fun _ _ => rfl, fun a us e => ?_⟩
  show upd W2.H Da _ a = some (.tup us)
  rw [upd_ne (fun z => by rw [z, h1'] at e; cases e)]; exact e
/-- behind a step without an item -/
theorem Lc.step {K : PySem.W.Frag} {Wb : Wl} {g : Nat} {Da : Addr} {W W2 : Wl} {acc : List D} (h : Lc K N Wb g Da W acc) (ob : Wb.Ok K N.toNames) (x : Ext W W2) (o2 : W2.Ok K N.toNames) : Lc K N Wb g Da W2 acc := by
  have gg : (W.η.add g (.lst acc.reverse)).get g = some (.lst acc.reverse) := by rw [Hd.get_add, if_pos rfl]
  have gnx : g < W.η.nx := h.og.lt g _ gg
  obtain ⟨x2, og2⟩ := h.og.readd (W2 := W2) (g := g) gg (η0 := W.η) rfl (fun q => by
    show W.η.get q = if q = g then none else (W.η.add g (.lst acc.reverse)).get q
    by_cases z : q = g
    · rw [if_pos z, z, h.off]
    · rw [if_neg z, Hd.get_add, if_neg z]) x o2
  refine ⟨o2, ?_, h.x.trans ob h.og x2, og2, by rw [x.mu g gnx, h.at_]⟩
  cases e : W2.η.get g with
  | none => rfl
  | some c =>
    rcases x.cs g c e with ⟨c0, e0, _⟩ | ⟨h4, _⟩
    · rw [h.off] at e0; cases e0
    · omega
/-- the start of a comprehension's list -/
theorem Lc.start {K : PySem.W.Frag} {Wf : Wl} {Da : Addr} (of : Wf.Ok K N.toNames) (hD : Wf.H Da = none) : (∃ ob : (Wf.new Da (.lst []) (.lst [])).Ok K N.toNames, Ext Wf (Wf.new Da (.lst []) (.lst []))) ∧
    Lc K N (Wf.new Da (.lst []) (.lst [])) Wf.η.nx Da ⟨(Wf.new Da (.lst []) (.lst [])).μ, Hd.bump Wf.η, upd Wf.H Da (.lst [])⟩ [] := by
  obtain ⟨x, o⟩ := of.new (c := .lst []) (ob := .lst []) hD ⟨[], upd_same, .nil, Nat.zero_le _⟩
  have off : (Hd.bump Wf.η).get Wf.η.nx = none := by
    cases e : Wf.η.get Wf.η.nx with
    | none => exact e
    | some c => exact absurd (of.lt _ c e) (Nat.lt_irrefl _)
  have e : Wl.mk (Wf.new Da (.lst []) (.lst [])).μ ((Hd.bump Wf.η).add Wf.η.nx (.lst [])) (upd Wf.H Da (.lst [])) = Wf.new Da (.lst []) (.lst []) := rfl
  have dr := x.drop (η' := Hd.bump Wf.η) o rfl (fun r c h => by
    show (Wf.η.new (.lst [])).get r = some c
    rw [Hd.get_new]
    by_cases z : r = Wf.η.nx
    · rw [z, off] at h; cases h
    · rw [if_neg z]; exact h)
  exact ⟨⟨o, x⟩, dr.2, off, (by rw [List.reverse_nil, e]; exact Ext.refl _), (by rw [List.reverse_nil, e]; exact o), Wl.new_mu Wf Da (.lst []) (.lst [])⟩
theorem Its.un_add (it : Its) (η : Hd) (g : Nat) (c : Cell) (h : ∀ r l, it.fz = some (r, l) → r ≠ g) : it.un (η.add g c) = (it.un η).add g c := by
  unfold Its.un
  cases e : it.fz with
  | none => rfl
  | some p =>
    obtain ⟨r, l⟩ := p
    have hne := h r l e
    have e2 : Nat.beq g r = false := by
      cases z : Nat.beq g r with
      | false => rfl
      | true => exact absurd (Nat.eq_of_beq_eq_true z).symm hne
    show unfAt r l (η.add g c) = (unfAt r l η).add g c
    unfold unfAt Hd.set Hd.add
    have : put r (Cell.lst l) ((g, c) :: η.cs) = (g, c) :: put r (Cell.lst l) η.cs := by
      rw [put]; simp only [e2]
    simp only [this]
theorem lc_of {E' : XK} {K : PySem.W.Frag} {ci : CI} {g : CG} {t : CT} {e : CE} {vs : List Nat} {σ : St} {H : Hp} {Q : VK} (h : tE K N E (cLc ci g t e vs) σ H Q) : tLc (tI K N E ci) (tGw K N vs g) (tT K N E' t) (tE K N E' e) vs σ H Q := by
  obtain ⟨W, σd, kv, kx, rfl, o, s, h, hv, hx⟩ := h
  refine ⟨W, σd, _, kx, rfl, o, s, h, fun W1 it J x1 o1 fz wk h1 => fun Da hD => ?_, hx⟩
  obtain ⟨xf, of⟩ := Its.froze o1 fz
  have enx : (it.w W1).η.nx = W1.η.nx := by
    unfold Its.w Its.fr
    cases it.fz with
    | none => rfl
    | some p => rfl
  obtain ⟨⟨ob, xb⟩, L0⟩ := Lc.start (N := N) (Da := Da) of hD
  generalize hWb : (it.w W1).new Da (.lst []) (.lst []) = Wb at ob xb L0
  rw [enx] at L0
  have s0 : RelS (it.w W1) (wipeD σd vs) (wipe σ vs) := ((s.mono o x1).mono o1 xf).wipe vs
  refine ⟨fun i m H2 => m = it.l.length - i ∧ i ≤ it.l.length ∧ ∃ W2 acc n, W2.H = H2 ∧ Lc K N Wb W1.η.nx Da W2 acc ∧ acc.length + n ≤ line1 ∧ lcD g t e (wipeD σd vs) (fun acc η2 => kv (.ref W1.η.nx) ((it.un η2).add W1.η.nx (.lst acc))) (it.l.drop i) n acc W2.η = true,
    ⟨it.l.length, by omega, Nat.zero_le _, _, [], line1, rfl, L0, by simp, h1⟩, ?_⟩
  rintro i m H2 ⟨rfl, hi, W2, acc, n, rfl, L2', hn, h2⟩
  have xf2 : Ext (it.w W1) W2 := L2'.drop ob of xb
  have s2 : RelS W2 (wipeD σd vs) (wipe σ vs) := s0.mono of xf2
  by_cases hlt : i < it.l.length
  · refine .inr ⟨wk.go W2 i (xf2.sty of) L2'.ok hlt, fun H3 => ∃ W3 acc n, W3.H = H3 ∧ Lc K N Wb W1.η.nx Da W3 acc ∧ acc.length + n ≤ line1 ∧ lcD g t e (wipeD σd vs) (fun acc η2 => kv (.ref W1.η.nx) ((it.un η2).add W1.η.nx (.lst acc))) (it.l.drop (i + 1)) n acc W3.η = true, fun H3 p3 => ⟨it.l.length - (i + 1), by omega, rfl, hlt, p3⟩, fun y H3 hy => ?_⟩
    obtain ⟨W3, d, e3, x3, o3, eH, eη, r3⟩ := wk.yld W2 i y H3 (xf2.sty of) L2'.ok hlt hy
    subst eH
    have ed : it.l.drop i = d :: it.l.drop (i + 1) := by
      rw [List.drop_eq_getElem_cons hlt]
      have : it.l[i] = d := by
        have := List.getElem?_eq_getElem hlt
        rw [this] at e3; exact Option.some.inj e3
      rw [this]
    rw [ed] at h2
    cases n with
    | zero => cases h2
    | succ n =>
      refine ⟨W3, d, wipeD σd vs, _, rfl, o3, r3, s2.mono L2'.ok x3, (by rw [eη]; exact h2), fun W4 σd4 σ4 x4 o4 s4 w4 h4 => ⟨w4.trans (wipe_wipe vs σ), ?_⟩⟩
      refine tT.bind (kx := kF) o4 s4 Xk.never h4 fun W5 b x5 o5 s5 hx5 h5 => ?_
      have x25 : Ext W2 W5 := x3.trans L2'.ok o3 (x4.trans o3 o4 x5)
      cases b with
      | true =>
        rw [if_pos rfl]
        refine tE.bind (kx := kF) o5 s5 Xk.never h5 fun W6 dy vy x6 o6 r6 s6 hx6 h6 => ?_
        have hll : line1 = 16777215 := rfl
        have hls : sizeLine = 16777216 := rfl
        obtain ⟨us, g1, g2, L6, t6⟩ := L2'.grow ob (x25.trans L2'.ok o5 x6) o6 r6 (by omega)
        exact ⟨us, g1, g2, _, dy :: acc, n, rfl, L6, by rw [List.length_cons]; omega, h6⟩
      | false =>
        rw [if_neg (by decide)]
        exact ⟨W5, acc, n, rfl, L2'.step ob x25 o5, by omega, h5⟩
  · have ei : i = it.l.length := by omega
    subst ei
    rw [List.drop_length] at h2
    refine .inl ⟨wk.stop W2 (xf2.sty of) L2'.ok, ?_⟩
    have h2' : kv (.ref W1.η.nx) ((it.un W2.η).add W1.η.nx (.lst acc.reverse)) = true := h2
    have xg : Ext (it.w W1) ⟨W2.μ, W2.η.add W1.η.nx (.lst acc.reverse), W2.H⟩ := xb.trans of ob L2'.x
    obtain ⟨xt, ot⟩ := Its.thaw o1 fz xg L2'.og
    have eu : it.un (W2.η.add W1.η.nx (.lst acc.reverse)) = (it.un W2.η).add W1.η.nx (.lst acc.reverse) := Its.un_add it _ _ _ fun r l er => Nat.ne_of_lt (o1.lt r _ (fz r l er))
    refine hv ⟨W2.μ, it.un (W2.η.add W1.η.nx (.lst acc.reverse)), W2.H⟩ (.ref W1.η.nx) (.ref Da) (x1.trans o o1 xt) ot ?_ (by show kv _ (it.un (W2.η.add W1.η.nx (.lst acc.reverse))) = true; rw [eu]; exact h2')
    rw [RelD]
    refine ⟨?_, by rw [L2'.at_]⟩
    show W1.η.nx < (it.un (W2.η.add W1.η.nx (.lst acc.reverse))).nx
    rw [Its.un_nx]
    exact L2'.og.lt W1.η.nx (.lst acc.reverse) (by show (W2.η.add W1.η.nx (.lst acc.reverse)).get _ = _; rw [Hd.get_add, if_pos rfl])
theorem je_lc {E' : XK} {elt tg iter : Expr} {ifs : List Expr} {scope : Scope} {own : List (Str × Nat)} {pos : Pos} {ci : CI} {g : CG} {t : CT} {e : CE} (hc : X.calm = true) (hN : X.N.Nodup) (hi : JI X N E tg iter ci) (ok : BlkOk X.N X.env.scope scope own)
    (hg : ∀ (s : Shared) (H : Hp) (C : Addr) (cl : List (Str × Addr)) (fp : List Addr), JGw (X.blk s H scope (compEnvC scope cl C X.env) fp) N (own.map (·.2)) tg g) (ht : ∀ (s : Shared) (H : Hp) (C : Addr) (cl : List (Str × Addr)) (fp : List Addr), JTs (X.blk s H scope (compEnvC scope cl C X.env) fp) N E' ifs t)
    (he : ∀ (s : Shared) (H : Hp) (C : Addr) (cl : List (Str × Addr)) (fp : List Addr), JE (X.blk s H scope (compEnvC scope cl C X.env) fp) N E' elt e) (hs : ∀ x, foldedSetIterable iter X.env x = pure x := by intro _; rfl) :
    JE X N E (.ListComp elt [⟨tg, iter, ifs, 0⟩] scope pos) (cLc ci g t e (own.map (·.2))) := PE.imp (pe_lc (g := tGw X.K N (own.map (fun p : Str × Nat => p.2)) g) (tt := tT X.K N E' t) (te := tE X.K N E' e) hc hN hi ok hg ht he hs) fun σ H Q q => lc_of q
/-- y = [..] on one line, y a local -/
theorem js_setLc {E' : XK} {i : Nat} {y : Str} {py : Pos} {elt tg iter : Expr} {ifs : List Expr} {scope : Scope} {own : List (Str × Nat)} {pos spos : Pos} {ci : CI} {g : CG} {t : CT} {e : CE} (hc : X.calm = true) (hN : X.N.Nodup) (hy : X.N[i]? = some y) (hyl : X.env.scope.names.lookup y = some .local)
    (hsw : swapsWith (.ListComp elt [⟨tg, iter, ifs, 0⟩] scope pos) (some (.Name y py)) spos.line X.env = pure true) (hi : JI X N E tg iter ci) (ok : BlkOk X.N X.env.scope scope own)
    (hg : ∀ (s : Shared) (H : Hp) (C : Addr) (cl : List (Str × Addr)) (fp : List Addr), JGw (X.blk s H scope (compEnvC scope cl C X.env) fp) N (own.map (·.2)) tg g) (ht : ∀ (s : Shared) (H : Hp) (C : Addr) (cl : List (Str × Addr)) (fp : List Addr), JTs (X.blk s H scope (compEnvC scope cl C X.env) fp) N E' ifs t)
    (he : ∀ (s : Shared) (H : Hp) (C : Addr) (cl : List (Str × Addr)) (fp : List Addr), JE (X.blk s H scope (compEnvC scope cl C X.env) fp) N E' elt e) (hs : ∀ x, foldedSetIterable iter X.env x = pure x := by intro _; rfl) :
    JS X N E (.Assign [.Name y py] (.ListComp elt [⟨tg, iter, ifs, 0⟩] scope pos) spos) (sAsg (cLc ci g t e (own.map (·.2))) (gNm i)) :=
  PS.imp (ps_setLc (g := tGw X.K N (own.map (fun p : Str × Nat => p.2)) g) (tt := tT X.K N E' t) (te := tE X.K N E' e) hc hN hy hyl hsw hi ok hg ht he hs) fun Z σ H q => tAsg_name (fun _ _ _ h => lc_of h) q
/-! ### two fors -/
def lcIn (g : CG) (t : CT) (e : CE) (σ : SD) (k : List D → Nat → Hd → Bool) : List D → Nat → List D → Hd → Bool
  | [], n, acc, η => k acc n η
  | _ :: _, 0, _, _ => false
  | d :: ds, n + 1, acc, η => g d σ η (fun σ1 η1 => t σ1 η1 (fun b η2 => match b with
    | true => e σ1 η2 (fun y η3 => lcIn g t e σ k ds n (y :: acc) η3) kF
    | false => lcIn g t e σ k ds n acc η2) kF) kF
def lcD2 (g : CG) (t : CT) (i1 : CI) (g1 : CG) (t1 : CT) (e : CE) (vs1 : List Nat) (σ : SD) (k : List D → Hd → Bool) : List D → Nat → List D → Hd → Bool
  | [], _, acc, η => k acc.reverse η
  | d :: ds, n, acc, η => g d σ η (fun σ1 η1 => t σ1 η1 (fun b η2 => match b with
    | true => i1 σ1 η2 (fun it η3 => lcIn g1 t1 e (wipeD σ1 vs1) (fun acc n η4 => lcD2 g t i1 g1 t1 e vs1 σ k ds n acc (it.un η4)) it.l n acc (it.fr η3)) kF
    | false => lcD2 g t i1 g1 t1 e vs1 σ k ds n acc η2) kF) kF
def cLc2 (i : CI) (g : CG) (t : CT) (i1 : CI) (g1 : CG) (t1 : CT) (e : CE) (vs vs1 : List Nat) : CE := fun σ η kv kx => i σ η (fun it η1 => lcD2 g t i1 g1 t1 e vs1 (wipeD σ vs) (fun acc η2 => kv (.ref η1.nx) ((it.un η2).add η1.nx (.lst acc))) it.l line1 [] (Hd.bump (it.fr η1))) kx
theorem Its.fr_add (it : Its) (η : Hd) (g : Nat) (c : Cell) (h : ∀ r l, it.fz = some (r, l) → r ≠ g) : it.fr (η.add g c) = (it.fr η).add g c := by
  unfold Its.fr
  cases e : it.fz with
  | none => rfl
  | some p =>
    obtain ⟨r, l⟩ := p
    have hne := h r l e
    have e2 : Nat.beq g r = false := by
      cases z : Nat.beq g r with
      | false => rfl
      | true => exact absurd (Nat.eq_of_beq_eq_true z).symm hne
    show frzAt r l (η.add g c) = (frzAt r l η).add g c
    unfold frzAt Hd.set Hd.add
    have : put r (Cell.frz l) ((g, c) :: η.cs) = (g, c) :: put r (Cell.frz l) η.cs := by
      rw [put]; simp only [e2]
    simp only [this]
theorem Its.fr_none (it : Its) {η : Hd} {g : Nat} (h : η.get g = none) : (it.fr η).get g = none := by
  unfold Its.fr
  cases e : it.fz with
  | none => exact h
  | some p =>
    obtain ⟨r, l⟩ := p
    show (η.set r (.frz l)).get g = none
    rw [Hd.get_set]
    by_cases z : g = r
    · rw [if_pos z, ← z, h]; rfl
    · rw [if_neg z]; exact h
theorem Its.un_none (it : Its) {η : Hd} {g : Nat} (h : η.get g = none) : (it.un η).get g = none := by
  unfold Its.un
  cases e : it.fz with
  | none => exact h
  | some p =>
    obtain ⟨r, l⟩ := p
    show (η.set r (.lst l)).get g = none
    rw [Hd.get_set]
    by_cases z : g = r
    · rw [if_pos z, ← z, h]; rfl
    · rw [if_neg z]; exact h
/-- a walk within: its cell frozen over the list that grows -/
theorem Lc.freeze {K : PySem.W.Frag} {Wb : Wl} {g : Nat} {Da : Addr} {W : Wl} {acc : List D} {it : Its} (h : Lc K N Wb g Da W acc) (fz : FzOk W it) :
    ∃ Wf, Wf.Ok K N.toNames ∧ Lc K N Wf g Da (it.w W) acc ∧ (∀ W2 acc2, Lc K N Wf g Da W2 acc2 → Sty (it.w W) W2) ∧ (Wb.Ok K N.toNames → ∀ W2 acc2, Lc K N Wf g Da W2 acc2 → Lc K N Wb g Da ⟨W2.μ, it.un W2.η, W2.H⟩ acc2) := by
  have ne : ∀ r l, it.fz = some (r, l) → r ≠ g := fun r l e z => by
    have := fz r l e
    rw [z, h.off] at this; cases this
  have fzg : FzOk ⟨W.μ, W.η.add g (.lst acc.reverse), W.H⟩ it := fun r l e => by
    show (W.η.add g (.lst acc.reverse)).get r = some (.lst l)
    rw [Hd.get_add, if_neg (ne r l e)]; exact fz r l e
  obtain ⟨xf, of⟩ := Its.froze h.og fzg
  have ew : it.w ⟨W.μ, W.η.add g (.lst acc.reverse), W.H⟩ = ⟨W.μ, (it.fr W.η).add g (.lst acc.reverse), W.H⟩ := by
    show Wl.mk W.μ (it.fr (W.η.add g (.lst acc.reverse))) W.H = _
    rw [Its.fr_add it _ _ _ ne]
  rw [ew] at xf of
  refine ⟨⟨W.μ, (it.fr W.η).add g (.lst acc.reverse), W.H⟩, of, ⟨(Its.froze h.ok fz).2, Its.fr_none it h.off, Ext.refl _, of, h.at_⟩, fun W2 acc2 L => ⟨?_, fun r l us hr hv => ?_⟩, fun ob W2 acc2 L => ?_⟩
  · have t := L.x.tx of
    exact ⟨t.nx, t.mu, t.tp⟩
  · refine L.x.fr _ _ hv (fun _ z => nomatch z) fun q c e m z => ?_
    have hr' : ((it.fr W.η).add g (.lst acc.reverse)).get r = some (.frz l) := by
      rw [Hd.get_add]
      by_cases y : r = g
      · have hr2 : (it.fr W.η).get r = some (.frz l) := hr
        rw [y, Its.fr_none it h.off] at hr2; cases hr2
      · rw [if_neg y]; exact hr
    by_cases y : q = r
    · rw [y] at e
      have e' : ((it.fr W.η).add g (.lst acc.reverse)).get r = some c := e
      rw [hr'] at e'; cases e'; cases m
    · exact of.apart hr' e y z
  · have x2 : Ext (it.w ⟨W.μ, W.η.add g (.lst acc.reverse), W.H⟩) ⟨W2.μ, W2.η.add g (.lst acc2.reverse), W2.H⟩ := by rw [ew]; exact L.x
    obtain ⟨xt, ot⟩ := Its.thaw h.og fzg x2 L.og
    have eu : it.un (W2.η.add g (.lst acc2.reverse)) = (it.un W2.η).add g (.lst acc2.reverse) := Its.un_add it _ _ _ ne
    have xt' : Ext ⟨W.μ, W.η.add g (.lst acc.reverse), W.H⟩ ⟨W2.μ, (it.un W2.η).add g (.lst acc2.reverse), W2.H⟩ := by rw [← eu]; exact xt
    have ot' : Wl.Ok K N.toNames ⟨W2.μ, (it.un W2.η).add g (.lst acc2.reverse), W2.H⟩ := by rw [← eu]; exact ot
    have off' := Its.un_none it L.off
    have dr := xt'.drop (η' := it.un W2.η) ot' rfl (fun r c e => by
      show ((it.un W2.η).add g (.lst acc2.reverse)).get r = some c
      rw [Hd.get_add]
      by_cases z : r = g
      · rw [z, off'] at e; cases e
      · rw [if_neg z]; exact e)
    exact ⟨dr.2, off', h.x.trans ob h.og xt', ot', L.at_⟩
theorem lc2_of {E' : XK} {K : PySem.W.Frag} {ci ci1 : CI} {g g1 : CG} {t t1 : CT} {e : CE} {vs vs1 : List Nat} {σ : St} {H : Hp} {Q : VK} (h : tE K N E (cLc2 ci g t ci1 g1 t1 e vs vs1) σ H Q) :
    tLc2 (tI K N E ci) (tGw K N vs g) (tT K N E' t) (tI K N E' ci1) (tGw K N vs1 g1) (tT K N E' t1) (tE K N E' e) vs vs1 σ H Q := by
  obtain ⟨W, σd, kv, kx, rfl, o, s, h, hv, hx⟩ := h
  refine ⟨W, σd, _, kx, rfl, o, s, h, fun W1 it J x1 o1 fz wk h1 => fun Da hD => ?_, hx⟩
  obtain ⟨xf, of⟩ := Its.froze o1 fz
  have enx : (it.w W1).η.nx = W1.η.nx := by
    unfold Its.w Its.fr
    cases it.fz with
    | none => rfl
    | some p => rfl
  obtain ⟨⟨ob, xb⟩, L0⟩ := Lc.start (N := N) (Da := Da) of hD
  generalize hWb : (it.w W1).new Da (.lst []) (.lst []) = Wb at ob xb L0
  rw [enx] at L0
  have s0 : RelS (it.w W1) (wipeD σd vs) (wipe σ vs) := ((s.mono o x1).mono o1 xf).wipe vs
  have hll : line1 = 16777215 := rfl
  have hls : sizeLine = 16777216 := rfl
  refine ⟨fun i m H2 => m = it.l.length - i ∧ i ≤ it.l.length ∧ ∃ W2 acc n, W2.H = H2 ∧ Lc K N Wb W1.η.nx Da W2 acc ∧ acc.length + n ≤ line1 ∧ lcD2 g t ci1 g1 t1 e vs1 (wipeD σd vs) (fun acc η2 => kv (.ref W1.η.nx) ((it.un η2).add W1.η.nx (.lst acc))) (it.l.drop i) n acc W2.η = true,
    ⟨it.l.length, by omega, Nat.zero_le _, _, [], line1, rfl, L0, by simp, h1⟩, ?_⟩
  rintro i m H2 ⟨rfl, hi, W2, acc, n, rfl, L2', hn, h2⟩
  have xf2 : Ext (it.w W1) W2 := L2'.drop ob of xb
  have s2 : RelS W2 (wipeD σd vs) (wipe σ vs) := s0.mono of xf2
  by_cases hlt : i < it.l.length
  · refine .inr ⟨wk.go W2 i (xf2.sty of) L2'.ok hlt, fun H3 => ∃ W3 acc n, W3.H = H3 ∧ Lc K N Wb W1.η.nx Da W3 acc ∧ acc.length + n ≤ line1 ∧ lcD2 g t ci1 g1 t1 e vs1 (wipeD σd vs) (fun acc η2 => kv (.ref W1.η.nx) ((it.un η2).add W1.η.nx (.lst acc))) (it.l.drop (i + 1)) n acc W3.η = true, fun H3 p3 => ⟨it.l.length - (i + 1), by omega, rfl, hlt, p3⟩, fun y H3 hy => ?_⟩
    obtain ⟨W3, d, e3, x3, o3, eH, eη, r3⟩ := wk.yld W2 i y H3 (xf2.sty of) L2'.ok hlt hy
    subst eH
    have ed : it.l.drop i = d :: it.l.drop (i + 1) := by
      rw [List.drop_eq_getElem_cons hlt]
      have : it.l[i] = d := by
        have := List.getElem?_eq_getElem hlt
        rw [this] at e3; exact Option.some.inj e3
      rw [this]
    rw [ed] at h2
    refine ⟨W3, d, wipeD σd vs, _, rfl, o3, r3, s2.mono L2'.ok x3, (by rw [eη]; exact h2), fun W4 σd4 σ4 x4 o4 s4 w4 h4 => ⟨w4.trans (wipe_wipe vs σ), ?_⟩⟩
    refine tT.bind (kx := kF) o4 s4 Xk.never h4 fun W5 b x5 o5 s5 hx5 h5 => ?_
    have x25 : Ext W2 W5 := x3.trans L2'.ok o3 (x4.trans o3 o4 x5)
    have L5 := L2'.step ob x25 o5
    cases b with
    | true =>
      rw [if_pos rfl]
      refine ⟨W5, σd4, _, kF, rfl, o5, s5, h5, fun W6 it1 J1 x6 o6 fz6 wk6 h6 => ?_, Xk.never⟩
      have L6 := L5.step ob x6 o6
      obtain ⟨Wf, oWf, L7, sty, back⟩ := L6.freeze fz6
      have s6 : RelS W6 σd4 σ4 := s5.mono o5 x6
      refine ⟨fun j k H7 => k = it1.l.length - j ∧ j ≤ it1.l.length ∧ ∃ W7 acc n, W7.H = H7 ∧ Lc K N Wf W1.η.nx Da W7 acc ∧ acc.length + n ≤ line1 ∧ lcIn g1 t1 e (wipeD σd4 vs1) (fun acc n η4 => lcD2 g t ci1 g1 t1 e vs1 (wipeD σd vs) (fun acc η2 => kv (.ref W1.η.nx) ((it.un η2).add W1.η.nx (.lst acc))) (it.l.drop (i + 1)) n acc (it1.un η4)) (it1.l.drop j) n acc W7.η = true,
        ⟨it1.l.length, by omega, Nat.zero_le _, it1.w W6, acc, n, rfl, L7, hn, h6⟩, ?_⟩
      rintro j k H7 ⟨rfl, hj, W7, acc7, n7, rfl, L7', hn7, h7⟩
      have st7 := sty W7 acc7 L7'
      have s7 : RelS W7 (wipeD σd4 vs1) (wipe σ4 vs1) := (RelS.tx (W := W6) ⟨by
        have := st7.tx.nx
        have e9 : (it1.w W6).η.nx = W6.η.nx := by
          unfold Its.w Its.fr
          cases it1.fz with
          | none => rfl
          | some p => rfl
        rw [e9] at this; exact this, fun r hr => st7.tx.mu r (by
          have e9 : (it1.w W6).η.nx = W6.η.nx := by
            unfold Its.w Its.fr
            cases it1.fz with
            | none => rfl
            | some p => rfl
          rw [e9]; exact hr), st7.tx.tp⟩ s6).wipe vs1
      by_cases hlt7 : j < it1.l.length
      · refine .inr ⟨wk6.go W7 j st7 L7'.ok hlt7, fun H8 => ∃ W8 acc n, W8.H = H8 ∧ Lc K N Wf W1.η.nx Da W8 acc ∧ acc.length + n ≤ line1 ∧ lcIn g1 t1 e (wipeD σd4 vs1) (fun acc n η4 => lcD2 g t ci1 g1 t1 e vs1 (wipeD σd vs) (fun acc η2 => kv (.ref W1.η.nx) ((it.un η2).add W1.η.nx (.lst acc))) (it.l.drop (i + 1)) n acc (it1.un η4)) (it1.l.drop (j + 1)) n acc W8.η = true, fun H8 p8 => ⟨it1.l.length - (j + 1), by omega, rfl, hlt7, p8⟩, fun y8 H8 hy8 => ?_⟩
        obtain ⟨W8, d8, e8, x8, o8, eH8, eη8, r8⟩ := wk6.yld W7 j y8 H8 st7 L7'.ok hlt7 hy8
        subst eH8
        have ed8 : it1.l.drop j = d8 :: it1.l.drop (j + 1) := by
          rw [List.drop_eq_getElem_cons hlt7]
          have : it1.l[j] = d8 := by
            have := List.getElem?_eq_getElem hlt7
            rw [this] at e8; exact Option.some.inj e8
          rw [this]
        rw [ed8] at h7
        cases n7 with
        | zero => cases h7
        | succ n7 =>
          refine ⟨W8, d8, wipeD σd4 vs1, _, rfl, o8, r8, s7.mono L7'.ok x8, (by rw [eη8]; exact h7), fun W9 σd9 σ9 x9 o9 s9 w9 h9 => ⟨w9.trans (wipe_wipe vs1 σ4), ?_⟩⟩
          refine tT.bind (kx := kF) o9 s9 Xk.never h9 fun Wa ba xa oa sa hxa ha => ?_
          have x7a : Ext W7 Wa := x8.trans L7'.ok o8 (x9.trans o8 o9 xa)
          cases ba with
          | true =>
            rw [if_pos rfl]
            refine tE.bind (kx := kF) oa sa Xk.never ha fun Wc dy vy xc oc rc sc hxc hc => ?_
            obtain ⟨us, g1, g2, Lc', tc⟩ := L7'.grow oWf (x7a.trans L7'.ok oa xc) oc rc (by omega)
            exact ⟨us, g1, g2, _, dy :: acc7, n7, rfl, Lc', by rw [List.length_cons]; omega, hc⟩
          | false =>
            rw [if_neg (by decide)]
            exact ⟨Wa, acc7, n7, rfl, L7'.step oWf x7a oa, by omega, ha⟩
      · have ej : j = it1.l.length := by omega
        subst ej
        rw [List.drop_length] at h7
        exact .inl ⟨wk6.stop W7 st7 L7'.ok, ⟨W7.μ, it1.un W7.η, W7.H⟩, acc7, n7, rfl, back ob W7 acc7 L7', hn7, h7⟩
    | false =>
      rw [if_neg (by decide)]
      exact ⟨W5, acc, n, rfl, L5, by omega, h5⟩
  · have ei : i = it.l.length := by omega
    subst ei
    rw [List.drop_length] at h2
    refine .inl ⟨wk.stop W2 (xf2.sty of) L2'.ok, ?_⟩
    have h2' : kv (.ref W1.η.nx) ((it.un W2.η).add W1.η.nx (.lst acc.reverse)) = true := h2
    have xg : Ext (it.w W1) ⟨W2.μ, W2.η.add W1.η.nx (.lst acc.reverse), W2.H⟩ := xb.trans of ob L2'.x
    obtain ⟨xt, ot⟩ := Its.thaw o1 fz xg L2'.og
    have eu : it.un (W2.η.add W1.η.nx (.lst acc.reverse)) = (it.un W2.η).add W1.η.nx (.lst acc.reverse) := Its.un_add it _ _ _ fun r l er => Nat.ne_of_lt (o1.lt r _ (fz r l er))
    refine hv ⟨W2.μ, it.un (W2.η.add W1.η.nx (.lst acc.reverse)), W2.H⟩ (.ref W1.η.nx) (.ref Da) (x1.trans o o1 xt) ot ?_ (by show kv _ (it.un (W2.η.add W1.η.nx (.lst acc.reverse))) = true; rw [eu]; exact h2')
    rw [RelD]
    refine ⟨?_, by rw [L2'.at_]⟩
    show W1.η.nx < (it.un (W2.η.add W1.η.nx (.lst acc.reverse))).nx
    rw [Its.un_nx]
    exact L2'.og.lt W1.η.nx (.lst acc.reverse) (by show (W2.η.add W1.η.nx (.lst acc.reverse)).get _ = _; rw [Hd.get_add, if_pos rfl])
theorem je_lc2 {E' : XK} {elt tg iter tg1 iter1 : Expr} {ifs ifs1 : List Expr} {scope : Scope} {own : List (Str × Nat)} {vs1 : List Nat} {pos : Pos} {ci ci1 : CI} {g g1 : CG} {t t1 : CT} {e : CE} (hc : X.calm = true) (hN : X.N.Nodup) (hi : JI X N E tg iter ci) (ok : BlkOk X.N X.env.scope scope own) (hv : ∀ i ∈ vs1, i ∈ own.map (·.2))
    (hg : ∀ (s : Shared) (H : Hp) (C : Addr) (cl : List (Str × Addr)) (fp : List Addr), JGw (X.blk s H scope (compEnvC scope cl C X.env) fp) N (own.map (·.2)) tg g) (ht : ∀ (s : Shared) (H : Hp) (C : Addr) (cl : List (Str × Addr)) (fp : List Addr), JTs (X.blk s H scope (compEnvC scope cl C X.env) fp) N E' ifs t)
    (hi1 : ∀ (s : Shared) (H : Hp) (C : Addr) (cl : List (Str × Addr)) (fp : List Addr), JI (X.blk s H scope (compEnvC scope cl C X.env) fp) N E' tg1 iter1 ci1)
    (hg1 : ∀ (s : Shared) (H : Hp) (C : Addr) (cl : List (Str × Addr)) (fp : List Addr), JGw (X.blk s H scope (compEnvC scope cl C X.env) fp) N vs1 tg1 g1) (ht1 : ∀ (s : Shared) (H : Hp) (C : Addr) (cl : List (Str × Addr)) (fp : List Addr), JTs (X.blk s H scope (compEnvC scope cl C X.env) fp) N E' ifs1 t1)
    (he : ∀ (s : Shared) (H : Hp) (C : Addr) (cl : List (Str × Addr)) (fp : List Addr), JE (X.blk s H scope (compEnvC scope cl C X.env) fp) N E' elt e) (hs : ∀ x, foldedSetIterable iter X.env x = pure x := by intro _; rfl) (hs1 : ∀ env x, foldedSetIterable iter1 env x = pure x := by intro _ _; rfl) :
    JE X N E (.ListComp elt [⟨tg, iter, ifs, 0⟩, ⟨tg1, iter1, ifs1, 0⟩] scope pos) (cLc2 ci g t ci1 g1 t1 e (own.map (·.2)) vs1) :=
  PE.imp (pe_lc2 (g := tGw X.K N (own.map (fun p : Str × Nat => p.2)) g) (tt := tT X.K N E' t) (wi1 := tI X.K N E' ci1) (g1 := tGw X.K N vs1 g1) (tt1 := tT X.K N E' t1) (te := tE X.K N E' e) hc hN hi ok hv hg ht hi1 hg1 ht1 he hs hs1) fun σ H Q q => lc2_of q
theorem js_setLc2 {E' : XK} {i : Nat} {y : Str} {py : Pos} {elt tg iter tg1 iter1 : Expr} {ifs ifs1 : List Expr} {scope : Scope} {own : List (Str × Nat)} {vs1 : List Nat} {pos spos : Pos} {ci ci1 : CI} {g g1 : CG} {t t1 : CT} {e : CE} (hc : X.calm = true) (hN : X.N.Nodup) (hy : X.N[i]? = some y) (hyl : X.env.scope.names.lookup y = some .local)
    (hsw : swapsWith (.ListComp elt [⟨tg, iter, ifs, 0⟩, ⟨tg1, iter1, ifs1, 0⟩] scope pos) (some (.Name y py)) spos.line X.env = pure true) (hi : JI X N E tg iter ci) (ok : BlkOk X.N X.env.scope scope own) (hv : ∀ i ∈ vs1, i ∈ own.map (·.2))
    (hg : ∀ (s : Shared) (H : Hp) (C : Addr) (cl : List (Str × Addr)) (fp : List Addr), JGw (X.blk s H scope (compEnvC scope cl C X.env) fp) N (own.map (·.2)) tg g) (ht : ∀ (s : Shared) (H : Hp) (C : Addr) (cl : List (Str × Addr)) (fp : List Addr), JTs (X.blk s H scope (compEnvC scope cl C X.env) fp) N E' ifs t)
    (hi1 : ∀ (s : Shared) (H : Hp) (C : Addr) (cl : List (Str × Addr)) (fp : List Addr), JI (X.blk s H scope (compEnvC scope cl C X.env) fp) N E' tg1 iter1 ci1)
    (hg1 : ∀ (s : Shared) (H : Hp) (C : Addr) (cl : List (Str × Addr)) (fp : List Addr), JGw (X.blk s H scope (compEnvC scope cl C X.env) fp) N vs1 tg1 g1) (ht1 : ∀ (s : Shared) (H : Hp) (C : Addr) (cl : List (Str × Addr)) (fp : List Addr), JTs (X.blk s H scope (compEnvC scope cl C X.env) fp) N E' ifs1 t1)
    (he : ∀ (s : Shared) (H : Hp) (C : Addr) (cl : List (Str × Addr)) (fp : List Addr), JE (X.blk s H scope (compEnvC scope cl C X.env) fp) N E' elt e) (hs : ∀ x, foldedSetIterable iter X.env x = pure x := by intro _; rfl) (hs1 : ∀ env x, foldedSetIterable iter1 env x = pure x := by intro _ _; rfl) :
    JS X N E (.Assign [.Name y py] (.ListComp elt [⟨tg, iter, ifs, 0⟩, ⟨tg1, iter1, ifs1, 0⟩] scope pos) spos) (sAsg (cLc2 ci g t ci1 g1 t1 e (own.map (·.2)) vs1) (gNm i)) :=
  PS.imp (ps_setLc2 (g := tGw X.K N (own.map (fun p : Str × Nat => p.2)) g) (tt := tT X.K N E' t) (wi1 := tI X.K N E' ci1) (g1 := tGw X.K N vs1 g1) (tt1 := tT X.K N E' t1) (te := tE X.K N E' e) hc hN hy hyl hsw hi ok hv hg ht hi1 hg1 ht1 he hs hs1) fun Z σ H q => tAsg_name (fun _ _ _ h => lc2_of h) q
end
end DL

/-! defs, calls, exceptions -/
namespace DL
open PySem PySem.Spec L2
abbrev CF := List D → Hd → KV → KX → Bool
def spD (K : PySem.W.Frag) (N : Nm) (F : CF) : Sp := fun vs H Q E => ∃ W ds kv kx, W.H = H ∧ W.Ok K N.toNames ∧ RelDs W ds vs ∧ F ds W.η kv kx = true ∧ Vk K N W kv Q ∧ Xk K N E W kx
/-- F asks for n arguments -/
def Ary (n : Nat) (F : CF) : Prop := ∀ ds η kv kx, F ds η kv kx = true → ds.length = n
abbrev JF (P : Program) (w : World) (K : PySem.W.Frag) (mg : Str → Option Value) (base : Heap) (k : Nat) (f : Addr) (fd : FuncData) (ps : List Str) (N : Nm) (F : CF) : Prop := FnOk P w K mg base (L2.CX P w) k f fd ps (spD K N F)
section
variable {X : Cx} {N : Nm} {E : XK}
def cCall (F : CF) (a : CA) : CE := fun σ η kv kx => a σ η (fun ds η1 => F ds η1 kv kx) kx
theorem je_call {k : Nat} {f : Addr} {fd : FuncData} {ps : List Str} {F : CF} {x : Str} {e : Expr} {es : List Expr} {c : CA} {p pos : Pos} (G : JF X.prog X.w X.K X.mg X.base k f fd ps N F) (hr : Room k X.A) (hg : Gl X x) (hm : X.mg x = some (.ref f)) (hk : PySem.W.keepIn X.K (.ref f) = true) (hb : Binds X.K fd ps [])
    (hx : Passes (L2.CX X.prog X.w) X E) (ha : JA X N E (e :: es) c) (hdb : (x == ("__debug__" : Str)) = false := by decide) (hs : starEach (e :: es) X.env = (false, eval e X.env) :: starEach es X.env := by rfl)
    (hpl : (backTo pos (starEach es X.env)).any (·.1) = false := by rfl) : JE X N E (.Call (.Name x p) (e :: es) [] pos) (cCall F c) :=
  PE.imp (pe_call G hr hg hm hk hb .nil hx ha hdb hs hpl) fun σ H Q q => by
    obtain ⟨W, σd, kv, kx, rfl, o, s, h, hv, hxx⟩ := q
    refine tAr.bind o s hxx h fun W1 ds vs x1 o1 r1 s1 hx1 h1 => ?_
    rw [List.append_nil]
    exact ⟨W1, ds, kv, kx, rfl, o1, r1, h1, hv.mono o o1 x1, hx1⟩
theorem je_call0 {k : Nat} {f : Addr} {fd : FuncData} {ps : List Str} {F : CF} {x : Str} {p pos : Pos} (G : JF X.prog X.w X.K X.mg X.base k f fd ps N F) (hr : Room k X.A) (hg : Gl X x) (hm : X.mg x = some (.ref f)) (hk : PySem.W.keepIn X.K (.ref f) = true) (hb : Binds X.K fd ps [])
    (hx : Passes (L2.CX X.prog X.w) X E) (hdb : (x == ("__debug__" : Str)) = false := by decide) : JE X N E (.Call (.Name x p) [] [] pos) (cCall F cNil) :=
  PE.imp (pe_call0 G hr hg hm hk hb .nil hx hdb) fun σ H Q q => by
    obtain ⟨W, σd, kv, kx, rfl, o, s, h, hv, hxx⟩ := q
    exact ⟨W, [], kv, kx, rfl, o, .nil, h, hv, hxx⟩
/-! ### the body of a def -/
def startD (n m : Nat) (ds : List D) : SD := ds.map some ++ List.replicate (m - n) none
/-- a def of n parameters and m slots -/
def cDef (n m : Nat) (b : CS) : CF := fun ds η kv kx => match Nat.beq ds.length n with
  | true => b (startD n m ds) η ⟨fun _ η1 => kv .non η1, kv, fun _ _ => false, fun _ _ => false, kx⟩
  | false => false
theorem rel_start {W : Wl} {N : List Str} {ds : List D} {vs : List V} (r : RelDs W ds vs) : RelS W (startD ds.length N.length ds) (L2.start N vs) := by
  unfold startD L2.start
  have hl := r.length
  refine ⟨by simp [hl], fun i d e => ?_⟩
  by_cases hi : i < ds.length
  · rw [List.getElem?_append_left (by simpa using hi), List.getElem?_map] at e
    cases q : ds[i]? with
    | none => rw [q] at e; cases e
    | some d' =>
      rw [q] at e
      simp only [Option.map_some, Option.some.injEq] at e
      subst e
      obtain ⟨v, e1, e2⟩ := r.get' q
      refine ⟨v, ?_, e2⟩
      rw [List.getElem?_append_left (by rw [List.length_map, ← hl]; exact hi), List.getElem?_map, e1]; rfl
  · rw [List.getElem?_append_right (by simpa using Nat.le_of_not_lt hi)] at e
    have := List.mem_of_getElem? e
    rw [List.mem_replicate] at this
    cases this.2
section
variable {P : Program} {w : World} {K : PySem.W.Frag} {mg : Str → Option Value} {base : Heap}
theorem jf_def {x qual : Str} {st : Stmt} {f : Addr} {fd : FuncData} {Ns ps : List Str} {k : Nat} {b : CS} (F : Fun K x qual st f fd) (S : FnScope Ns ps (defScope st))
    (hbody : ∀ (cdv : Value) (A : Around) (outer : List Env) (s : Shared) (H : Hp) (E : XK), Room k (A.deeper (PyProof.Rows.envOfC qual (defScope st) s.heap.objs.size f cdv)) → JB (cxOf (L2.CX P w) P w K mg base Ns qual (defScope st) f cdv A outer s H E) N E (defBody st) b) :
    JF P w K mg base (k + 1) f fd ps N (cDef ps.length Ns.length b) := by
  refine F.okX S (fun vs H Q E h => ?_) (fun cdv A outer s H vs Q E hr h => ?_)
  · obtain ⟨W, ds, kv, kx, _, _, r, h, _⟩ := h
    unfold cDef at h
    cases e : Nat.beq ds.length ps.length with
    | false => rw [e] at h; cases h
    | true => rw [← r.length]; exact Nat.eq_of_beq_eq_true e
  · obtain ⟨W, ds, kv, kx, rfl, o, r, h, hv, hx⟩ := h
    unfold cDef at h
    cases e : Nat.beq ds.length ps.length with
    | false => rw [e] at h; cases h
    | true =>
      rw [e] at h
      have el : ds.length = ps.length := Nat.eq_of_beq_eq_true e
      refine ⟨_, hbody cdv A outer s W.H E hr, W, startD ps.length Ns.length ds, _, rfl, o, by rw [← el]; exact rel_start r, h, ⟨fun W' σd σ x o' s' e' => hv W' .non .non x o' mkNon e', hv, (fun _ _ _ _ _ _ e' => nomatch e'), (fun _ _ _ _ _ _ e' => nomatch e'), hx⟩⟩
theorem ary_def {n m : Nat} {b : CS} : Ary n (cDef n m b) := fun ds η kv kx h => by
  unfold cDef at h
  cases e : Nat.beq ds.length n with
  | false => rw [e] at h; cases h
  | true => exact Nat.eq_of_beq_eq_true e
/-- a weaker function -/
theorem jf_imp {k : Nat} {f : Addr} {fd : FuncData} {ps : List Str} {F G : CF} (h : JF P w K mg base k f fd ps N F) (i : ∀ ds η kv kx, G ds η kv kx = true → F ds η kv kx = true) : JF P w K mg base k f fd ps N G :=
  h.imp fun vs H Q E q => by
    obtain ⟨W, ds, kv, kx, e, o, r, h, hv, hx⟩ := q
    exact ⟨W, ds, kv, kx, e, o, r, i _ _ _ _ h, hv, hx⟩
/-- data without cells -/
def nor : Nat → D → Bool
  | _, .non => true
  | _, .bl _ => true
  | _, .int _ => true
  | _, .str _ => true
  | n + 1, .tup l => l.all (nor n)
  | _, _ => false
theorem nor_rel : ∀ (n : Nat) {W W' : Wl} {d : D} {v : V}, (∀ a vs, W.H a = some (.tup vs) → W'.H a = some (.tup vs)) → nor n d = true → RelD W d v → RelD W' d v := by
  intro n
  induction n with
  | zero =>
    intro W W' d v ht h r
    cases d with
    | tup l => cases h
    | ref q => cases h
    | _ => rw [RelD] at *; exact r
  | succ n ih =>
    intro W W' d v ht h r
    cases d with
    | ref q => cases h
    | tup l =>
      rw [RelD] at *
      obtain ⟨a, vs, e, h1, h2⟩ := r
      refine ⟨a, vs, e, ht a vs h1, ?_⟩
      have all : ∀ (l : List D) (vs : List V), l.all (nor n) = true → RelDs W l vs → RelDs W' l vs := by
        intro l
        induction l with
        | nil => intro vs _ r; rw [RelDs] at *; exact r
        | cons d l ihl =>
          intro vs hh r
          rw [RelDs] at *
          obtain ⟨v, vs', e, r1, r2⟩ := r
          simp only [List.all_cons, Bool.and_eq_true] at hh
          exact ⟨v, vs', e, ih ht hh.1 r1, ihl vs' hh.2 r2⟩
      exact all l vs h h2
    | _ => rw [RelD] at *; exact r
def norX (x : Xc) : Bool := match x.p with
  | none => true
  | some d => nor 8 d
/-- a def run on no cells: what it makes is dropped but its data -/
def cPure (F : CF) : CF := fun ds η kv kx => F ds ⟨η.nx, []⟩ (fun d _ => match nor 8 d with
  | true => kv d η
  | false => false) (fun x _ => match norX x with
  | true => kx x η
  | false => false)
theorem jf_pure {k : Nat} {f : Addr} {fd : FuncData} {ps : List Str} {F : CF} (h : JF P w K mg base k f fd ps N F) : JF P w K mg base k f fd ps N (cPure F) :=
  h.imp fun vs H Q E q => by
    obtain ⟨W, ds, kv, kx, rfl, o, r, h, hv, hx⟩ := q
    have o0 : Wl.Ok K N.toNames ⟨W.μ, ⟨W.η.nx, []⟩, W.H⟩ := ⟨(fun _ _ e => nomatch e), (fun _ _ e => nomatch e), (fun _ _ _ _ e => nomatch e), o.tab⟩
    have t0 : Tx W ⟨W.μ, ⟨W.η.nx, []⟩, W.H⟩ := ⟨Nat.le_refl _, fun _ _ => rfl, fun _ _ e => e⟩
    have back : ∀ W', Ext ⟨W.μ, ⟨W.η.nx, []⟩, W.H⟩ W' → W'.Ok K N.toNames → Ext W ⟨W.μ, W.η, W'.H⟩ ∧ Wl.Ok K N.toNames ⟨W.μ, W.η, W'.H⟩ := fun W' x o' => by
      have keep : ∀ a u, noT u → W.H a = some u → W'.H a = some u := fun a u t e => x.fr a u e t (fun _ _ e => nomatch e)
      have xx : Ext W ⟨W.μ, W.η, W'.H⟩ := ⟨Nat.le_refl _, fun _ _ => rfl, fun a u e t _ => keep a u t e, x.th, fun r c e => .inl ⟨c, e, id⟩⟩
      exact ⟨xx, o.lt, fun r c e => (o.cell r c e).mono o xx (fun ob t => keep _ ob t), o.inj, o'.tab⟩
    refine ⟨⟨W.μ, ⟨W.η.nx, []⟩, W.H⟩, ds, _, _, rfl, o0, r.tx t0, h, fun W' d v x o' r' e => ?_, fun W' xx cls dd x o' r' e => ?_⟩
    · dsimp only at e
      cases en : nor 8 d with
      | false => rw [en] at e; cases e
      | true =>
        rw [en] at e
        obtain ⟨x2, o2⟩ := back W' x o'
        exact hv ⟨W.μ, W.η, W'.H⟩ d v x2 o2 (nor_rel (W := W') 8 (fun _ _ e => e) en r') e
    · dsimp only at e
      cases en : norX xx with
      | false => rw [en] at e; cases e
      | true =>
        rw [en] at e
        obtain ⟨x2, o2⟩ := back W' x o'
        refine hx ⟨W.μ, W.η, W'.H⟩ xx cls dd x2 o2 ?_ e
        obtain ⟨h1, h2⟩ := r'
        refine ⟨h1, ?_⟩
        unfold norX at en
        cases ep : xx.p with
        | none => rw [ep] at h2; exact h2
        | some d =>
          rw [ep] at h2 en
          obtain ⟨a, v, q1, q2, q3⟩ := h2
          exact ⟨a, v, q1, q2, nor_rel (W := W') 8 (fun _ _ e => e) en q3⟩
end
/-! ### raise -/
def sRaise (c : Nat) : CS := fun _ η k => k.xc ⟨c, none⟩ η
theorem js_raise {e : Expr} {C : Addr} {c : Nat} {pos : Pos} (hc : X.calm = true) (tk : Takes X (fun cls d _ H => E cls d H)) (he : PMk X e (fun _ H Q => Q (.ref C) none H)) (hC : N.cls c = C) : JS X N E (.Raise (some e) none pos) (sRaise c) :=
  PS.imp (ps_raise hc tk he) fun Z σ H q => by
    obtain ⟨W, σd, k, rfl, o, s, h, hk⟩ := q
    exact hk.xc W ⟨c, none⟩ (.ref C) none (Ext.refl W) o ⟨by rw [hC], rfl⟩ h
/-! ### list(range(..)), tuple(range(..)) -/
def tRgD (K : PySem.W.Frag) (N : Nm) (E : XK) (c : SD → Hd → (Int → Int → Hd → Bool) → KX → Bool) : St → Hp → (Int → Int → Hp → Prop) → Prop := fun σ H Q => ∃ W σd k kx, W.H = H ∧ W.Ok K N.toNames ∧ RelS W σd σ ∧ c σd W.η k kx = true ∧ (∀ W' a b, Ext W W' → W'.Ok K N.toNames → k a b W'.η = true → Q a b W'.H) ∧ Xk K N E W kx
abbrev CR := SD → Hd → (Int → Int → Hd → Bool) → KX → Bool
def JR (X : Cx) (N : Nm) (E : XK) (e : Expr) (c : CR) : Prop := PRg X e (tRgD X.K N E c)
theorem PRg.imp {e : Expr} {t t' : St → Hp → (Int → Int → Hp → Prop) → Prop} (h : PRg X e t) (f : ∀ σ H Q, t' σ H Q → t σ H Q) : PRg X e t' := fun pins s σ H Q I q => h pins s σ H Q I (f σ H Q q)
def crg1 (a : CE) : CR := fun σ η k kx => a σ η (fun x η1 => match x with
  | .int j => k 0 j η1
  | _ => false) kx
def crg2 (a b : CE) : CR := fun σ η k kx => a σ η (fun x η1 => b σ η1 (fun y η2 => match x, y with
  | .int i, .int j => k i j η2
  | _, _ => false) kx) kx
theorem jr_1 {a : Expr} {c : CE} {p pos : Pos} (hg : Gl X "range") (hm : X.mg "range" = none) (ha : JE X N E a c) (hs : starEach [a] X.env = (false, eval a X.env) :: starEach [] X.env := by rfl) : JR X N E (.Call (.Name "range" p) [a] [] pos) (crg1 c) :=
  PRg.imp (prg_1 hg hm ha hs) fun σ H Q q => by
    obtain ⟨W, σd, k, kx, rfl, o, s, h, hk, hx⟩ := q
    refine tE.bind o s hx h fun W1 d v x1 o1 r1 s1 hx1 h1 => ?_
    cases d with
    | int j => rw [relInt r1]; exact ⟨j, rfl, hk W1 0 j x1 o1 h1⟩
    | _ => cases h1
theorem jr_2 {a b : Expr} {c d : CE} {p pos : Pos} (hg : Gl X "range") (hm : X.mg "range" = none) (ha : JE X N E a c) (hb : JE X N E b d) (hs : starEach [a, b] X.env = (false, eval a X.env) :: starEach [b] X.env := by rfl) (hs2 : starEach [b] X.env = (false, eval b X.env) :: starEach [] X.env := by rfl)
    (hpl : (backTo pos (starEach [b] X.env)).any (·.1) = false := by rfl) : JR X N E (.Call (.Name "range" p) [a, b] [] pos) (crg2 c d) :=
  PRg.imp (prg_2 hg hm ha hb hs hs2 hpl) fun σ H Q q => by
    obtain ⟨W, σd, k, kx, rfl, o, s, h, hk, hx⟩ := q
    refine tE.bind o s hx h fun W1 dx x x1 o1 r1 s1 hx1 h1 => ?_
    refine tE.bind o1 s1 hx1 h1 fun W2 dy y x2 o2 r2 s2 hx2 h2 => ?_
    cases dx with
    | int i =>
      cases dy with
      | int j => rw [relInt r1, relInt r2]; exact ⟨i, j, rfl, rfl, hk W2 i j (x1.trans o o1 x2) o2 h2⟩
      | _ => cases h2
    | _ => cases h2
theorem rgV_rel {W : Wl} (a b : Int) : RelDs W (rangeD (b - a).toNat a) (rgV a b) := by
  unfold rgV
  have gen : ∀ (n : Nat) (a : Int) (k : Nat), RelDs W (rangeD n (a + k)) ((List.range' k n).map fun i => V.int (a + (i : Nat))) := by
    intro n
    induction n with
    | zero => intro a k; exact .nil
    | succ n ih =>
      intro a k
      rw [List.range'_succ, List.map_cons, rangeD]
      refine .cons mkInt ?_
      have := ih a (k + 1)
      rw [show a + (k : Int) + 1 = a + ((k + 1 : Nat) : Int) by omega]
      exact this
  have := gen (b - a).toNat a 0
  rw [List.range_eq_range']
  simpa using this
def cLstR (r : CR) : CE := fun σ η kv kx => r σ η (fun a b η1 => match rOk a, rOk b, Nat.ble (b - a).toNat line with
  | true, true, true => kv (.ref η1.nx) (η1.new (.lst (rangeD (b - a).toNat a)))
  | _, _, _ => false) kx
def cTupR (r : CR) : CE := fun σ η kv kx => r σ η (fun a b η1 => match rOk a, rOk b, Nat.ble (b - a).toNat line with
  | true, true, true => kv (.tup (rangeD (b - a).toNat a)) η1
  | _, _, _ => false) kx
theorem tRg.bind {K : PySem.W.Frag} {W : Wl} {kx : KX} {c : CR} {kt : Int → Int → Hd → Bool} {σ : St} {σd : SD} {Q' : Int → Int → Hp → Prop} (o : W.Ok K N.toNames) (s : RelS W σd σ) (hx : Xk K N E W kx) (h : c σd W.η kt kx = true)
    (hq : ∀ W' a b, Ext W W' → W'.Ok K N.toNames → kt a b W'.η = true → Q' a b W'.H) : tRgD K N E c σ W.H Q' := ⟨W, σd, kt, kx, rfl, o, s, h, hq, hx⟩
theorem je_listR {e : Expr} {c : CR} {p pos : Pos} (hc : X.calm = true) (hg : Gl X "list") (hm : X.mg "list" = none) (he : JR X N E e c) (hs : starEach [e] X.env = (false, eval e X.env) :: starEach [] X.env := by rfl) : JE X N E (.Call (.Name "list" p) [e] [] pos) (cLstR c) :=
  PE.imp (pe_listRg hc hg hm he hs) fun σ H Q q => by
    obtain ⟨W, σd, kv, kx, rfl, o, s, h, hv, hx⟩ := q
    refine tRg.bind o s hx h fun W1 a b x1 o1 h1 => ?_
    cases e1 : rOk a with
    | false => rw [e1] at h1; cases h1
    | true =>
      cases e2 : rOk b with
      | false => rw [e1, e2] at h1; cases h1
      | true =>
        cases e3 : Nat.ble (b - a).toNat line with
        | false => rw [e1, e2, e3] at h1; cases h1
        | true =>
          rw [e1, e2, e3] at h1
          have hl : (b - a).toNat ≤ 16777216 := Nat.le_of_ble_eq_true e3
          exact ⟨⟨(rOk_ok e1).1, (rOk_ok e1).2, (rOk_ok e2).1, (rOk_ok e2).2, by omega⟩, fun q hq => Vk.lst o1 (hv.mono o o1 x1) h1 hq (rgV_rel a b) (by rw [rangeD_len]; exact hl)⟩
theorem je_tupR {e : Expr} {c : CR} {p pos : Pos} (hc : X.calm = true) (hg : Gl X "tuple") (hm : X.mg "tuple" = none) (he : JR X N E e c) (hs : starEach [e] X.env = (false, eval e X.env) :: starEach [] X.env := by rfl) : JE X N E (.Call (.Name "tuple" p) [e] [] pos) (cTupR c) :=
  PE.imp (pe_tupRg hc hg hm he hs) fun σ H Q q => by
    obtain ⟨W, σd, kv, kx, rfl, o, s, h, hv, hx⟩ := q
    refine tRg.bind o s hx h fun W1 a b x1 o1 h1 => ?_
    cases e1 : rOk a with
    | false => rw [e1] at h1; cases h1
    | true =>
      cases e2 : rOk b with
      | false => rw [e1, e2] at h1; cases h1
      | true =>
        cases e3 : Nat.ble (b - a).toNat line with
        | false => rw [e1, e2, e3] at h1; cases h1
        | true =>
          rw [e1, e2, e3] at h1
          have hl : (b - a).toNat ≤ 16777216 := Nat.le_of_ble_eq_true e3
          exact ⟨⟨(rOk_ok e1).1, (rOk_ok e1).2, (rOk_ok e2).1, (rOk_ok e2).2, by omega⟩, fun q hq => Vk.tup (W0 := W) o1 (hv.mono o o1 x1) h1 hq (rgV_rel a b)⟩
end
end DL

/-! sorted -/
namespace DL
open PySem PySem.Spec L2
/-! ### the order of rows of ints -/
def lexI : List Int → List Int → Bool
  | _, [] => false
  | [], _ :: _ => true
  | x :: xs, y :: ys => match ieq x y with
    | true => lexI xs ys
    | false => decide (x < y)
theorem ieq_false {i j : Int} (h : i ≠ j) : ieq i j = false := by
  cases e : ieq i j with
  | false => rfl
  | true => exact absurd (ieq_iff.mp e) h
theorem ieq_self (i : Int) : ieq i i = true := ieq_iff.mpr rfl
theorem lexI_irrefl : ∀ x : List Int, lexI x x = false
  | [] => rfl
  | x :: xs => by simp only [lexI, ieq_self]; exact lexI_irrefl xs
theorem lexI_asym : ∀ x y : List Int, lexI x y = true → lexI y x = false
  | _, [], h => by cases ‹List Int› <;> simp [lexI] at h
  | [], _ :: _, _ => rfl
  | x :: xs, y :: ys, h => by
    simp only [lexI] at h ⊢
    by_cases e : x = y
    · subst e; simp only [ieq_self] at h ⊢; exact lexI_asym xs ys h
    · rw [ieq_false e] at h
      rw [ieq_false (Ne.symm e)]
      have := of_decide_eq_true h
      exact decide_eq_false (by omega)
theorem lexI_tot : ∀ x y : List Int, lexI x y = false → lexI y x = false → x = y
  | [], [], _, _ => rfl
  | [], _ :: _, h, _ => by simp [lexI] at h
  | _ :: _, [], _, h => by simp [lexI] at h
  | x :: xs, y :: ys, h, h' => by
    simp only [lexI] at h h'
    by_cases e : x = y
    · subst e; simp only [ieq_self] at h h'; rw [lexI_tot xs ys h h']
    · rw [ieq_false e] at h
      rw [ieq_false (Ne.symm e)] at h'
      have h1 := of_decide_eq_false h
      have h2 := of_decide_eq_false h'
      omega
theorem lexI_tr : ∀ x y z : List Int, lexI x y = true → lexI y z = true → lexI x z = true
  | x, [], z, h, _ => by cases x <;> simp [lexI] at h
  | x, y :: ys, [], _, h => by simp [lexI] at h
  | [], y :: ys, z :: zs, _, _ => rfl
  | x :: xs, y :: ys, z :: zs, h, h' => by
    simp only [lexI] at h h' ⊢
    by_cases e : x = y
    · subst e
      simp only [ieq_self] at h
      by_cases e2 : x = z
      · subst e2; simp only [ieq_self] at h' ⊢; exact lexI_tr xs ys zs h h'
      · rw [ieq_false e2] at h' ⊢; exact h'
    · rw [ieq_false e] at h
      have h1 := of_decide_eq_true h
      by_cases e2 : y = z
      · subst e2; rw [ieq_false e]; exact h
      · rw [ieq_false e2] at h'
        have h2 := of_decide_eq_true h'
        rw [ieq_false (show x ≠ z by omega)]
        exact decide_eq_true (by omega)
theorem lexI_swo {α : Type} (k : α → List Int) : SrtO.Swo fun v u => lexI (k v) (k u) := by
  refine ⟨fun x y h => lexI_asym _ _ h, fun x y z h1 h2 => ?_⟩
  cases e : lexI (k z) (k x) with
  | false => rfl
  | true =>
    cases e2 : lexI (k x) (k y) with
    | true => exact (lexI_tr _ _ _ e e2).symm.trans h2
    | false =>
      have := lexI_tot _ _ e2 h1
      rw [← this] at h2; exact e.symm.trans h2
/-- sorting by insertion: rows that stand in order cost one look each -/
def insI (x : List Int) : List (List Int) → List (List Int)
  | [] => [x]
  | y :: ys => match lexI y x with
    | true => y :: insI x ys
    | false => x :: y :: ys
def sortI : List (List Int) → List (List Int)
  | [] => []
  | x :: xs => insI x (sortI xs)
theorem insI_perm (x : List Int) : ∀ l, (insI x l).Perm (x :: l)
  | [] => List.Perm.refl _
  | y :: ys => by
    unfold insI
    cases lexI y x with
    | true => exact ((insI_perm x ys).cons y).trans (List.Perm.swap x y ys)
    | false => exact List.Perm.refl _
theorem sortI_perm : ∀ l, (sortI l).Perm l
  | [] => List.Perm.refl _
  | x :: xs => (insI_perm x _).trans ((sortI_perm xs).cons x)
abbrev SrI (l : List (List Int)) : Prop := l.Pairwise fun x y => lexI y x = false
theorem insI_sorted (x : List Int) : ∀ l, SrI l → SrI (insI x l)
  | [], _ => List.pairwise_singleton _ _
  | y :: ys, h => by
    obtain ⟨h1, h2⟩ := List.pairwise_cons.mp h
    unfold insI
    cases e : lexI y x with
    | true =>
      refine List.pairwise_cons.mpr ⟨fun z hz => ?_, insI_sorted x ys h2⟩
      rcases List.mem_cons.mp ((insI_perm x ys).mem_iff.mp hz) with q | q
      · subst q; exact lexI_asym _ _ e
      · exact h1 z q
    | false =>
      refine List.pairwise_cons.mpr ⟨fun z hz => ?_, h⟩
      rcases List.mem_cons.mp hz with q | q
      · subst q; exact e
      · cases e3 : lexI z x with
        | false => rfl
        | true =>
          have h3 := h1 z q
          cases e4 : lexI x y with
          | true => exact (lexI_tr _ _ _ e3 e4).symm.trans h3
          | false =>
            have := lexI_tot _ _ e4 e
            rw [← this] at h3; exact e3.symm.trans h3
theorem sortI_sorted : ∀ l, SrI (sortI l)
  | [] => .nil
  | x :: xs => insI_sorted x _ (sortI_sorted xs)
theorem srI_uniq : ∀ {l m : List (List Int)}, l.Perm m → SrI l → SrI m → l = m
  | [], m, p, _, _ => (List.nil_perm.mp p).symm
  | x :: xs, [], p, _, _ => nomatch (List.perm_nil.mp p)
  | x :: xs, y :: ys, p, h1, h2 => by
    obtain ⟨a1, a2⟩ := List.pairwise_cons.mp h1
    obtain ⟨b1, b2⟩ := List.pairwise_cons.mp h2
    have e : x = y := by
      have hx : x ∈ y :: ys := p.mem_iff.mp List.mem_cons_self
      have hy : y ∈ x :: xs := p.mem_iff.mpr List.mem_cons_self
      rcases List.mem_cons.mp hx with q | q
      · exact q
      · rcases List.mem_cons.mp hy with q2 | q2
        · exact q2.symm
        · exact lexI_tot _ _ (b1 x q) (a1 y q2) |>.symm ▸ rfl
    subst e
    rw [srI_uniq (List.perm_cons x |>.mp p) a2 b2]
/-! ### the machine -/
section
variable {prog : Program} {w : World} {A : Around} {E : Value → Shared → Prop} {s : Shared}
theorem collect_any {l : Addr} {vs : List Value} {T : String} {o : Obj} {n : Nat} {Q : List Value → Shared → Prop} (hT : T = "list" ∨ T = "tuple") (ho : s.heap.get? l = some o) (hc : o.cls = .type T) (hd : o.data = .seq vs.toArray n)
    (h : Q vs { s with heap := (s.heap.push (PyProof.Rows.seqObj "list" #[] 0)).update s.heap.objs.size (Obj.mapSeq (· ++ vs.toArray)) }) (hsz : vs.length ≤ sizeLine) :
    wpAny (model prog w) A (collect (.ref l)) Q E s := by
  unfold collect
  refine wpAny_bind (wpAny_runValue (codeAny_builtin PyProof.Rows.entry_proto_collect' ?_))
  show wpAny _ _ (do again (.builtin "list.__iadd__" ⟨[← newList [], .ref l], []⟩)) _ _ s
  refine wpAny_bind (wpAny_newList (wpAny_pure ⟨Code.quiet_builtin _ (by decide +kernel), codeAny_builtin PyProof.Rows.entry_list_iadd' ?_⟩))
  show wpAny _ _ (Builtin.List.listExtendWith (.ref s.heap.objs.size) (.ref l) (.ref s.heap.objs.size)) _ _ { s with heap := s.heap.push (PyProof.Rows.seqObj "list" #[] 0) }
  unfold Builtin.List.listExtendWith
  have ho' : (s.heap.push (PyProof.Rows.seqObj "list" #[] 0)).get? l = some o := Heap.get?_push_of_some _ ho
  refine wpAny_bind (wpAny_typeOf (T := T) ⟨o, ho', hc⟩ ?_)
  rw [if_pos (by rcases hT with rfl | rfl <;> simp)]
  refine wpAny_bind (PyProof.Rows.listItems_at ho' hd ?_)
  refine wpAny_bind (PyProof.Rows.listItems_at (xs := #[]) (n := 0) (Heap.get?_push_size _ rfl) rfl ?_)
  rw [if_neg (by simp)]
  refine wpAny_bind (PyProof.Rows.listUpdate_at (xs := #[]) (n := 0) (Heap.get?_push_size _ rfl) rfl ?_ (Nat.zero_le _) (by show (#[] ++ vs.toArray).size ≤ sizeLine + 1; simp only [Array.size_append, List.size_toArray, List.length_nil]; omega))
  refine wpAny_pure ?_
  show wpAny (model prog w) A (do
      let o ← load s.heap.objs.size
      match o.data with
      | .seq xs _ => pure xs.toList
      | _ => unsupported "internal:collect") Q E { s with heap := (s.heap.push (PyProof.Rows.seqObj "list" #[] 0)).update s.heap.objs.size (Obj.mapSeq (· ++ vs.toArray)) }
  refine wpAny_bind (wpAny_load (PyProof.Rows.get?_update_seq (Heap.get?_push_size _ rfl) _) ?_)
  show wpAny _ _ (pure ((#[] : Array Value) ++ vs.toArray).toList) Q E _
  rw [show ((#[] : Array Value) ++ vs.toArray).toList = vs by simp]
  exact wpAny_pure h
/-- sorted of a list or a tuple -/
theorem sorted_seq {l : Addr} {vs : List Value} {T : String} {o : Obj} {n : Nat} {ltv : Value → Value → Bool} {Q : Value → Shared → Prop} (O : SrtO.Swo ltv) (hT : T = "list" ∨ T = "tuple") (ho : s.heap.get? l = some o) (hc : o.cls = .type T) (hd : o.data = .seq vs.toArray n) (hz : vs.length ≤ sizeLine)
    (hS : 2 ≤ vs.length → ∀ (h₁ : Heap) (a : Addr), h₁.get? a = some (PyProof.Rows.seqObj "list" vs.toArray 0) → (∀ b o, s.heap.get? b = some o → b ≠ a ∧ h₁.get? b = some o) → SrtO.SortableO prog w A.in1.in1 { s with heap := h₁ } a vs ltv)
    (h : ∀ out : List Value, SrtO.Srtd ltv out → SrtO.Stb ltv out vs → Q (.ref (s.heap.objs.size + 1)) { s with heap := PyProof.Rows.sortedAll s.heap vs out.toArray }) :
    wpAny (model prog w) A (call (.builtin "sorted") [.ref l]) Q E s := by
  refine Calls.call_function_entry PyProof.Rows.kind_sorted PyProof.Rows.plain_sorted PyProof.Rows.entry_sorted (PyProof.Rows.args_sorted1 _) ?_
  unfold Builtin.«sorted»
  refine wpAny_bind (m := checkCount "sorted" 1 1 _) (wpAny_pure ?_)
  refine wpAny_bind (collect_any hT ho hc hd ?_ hz)
  refine wpAny_bind (wpAny_newList ?_ hz)
  have hsz : ((s.heap.push (PyProof.Rows.seqObj "list" #[] 0)).update s.heap.objs.size (Obj.mapSeq (· ++ vs.toArray))).objs.size = s.heap.objs.size + 1 := by
    rw [Heap.size_update, PyProof.Rows.size_push']
  have hoL : (((s.heap.push (PyProof.Rows.seqObj "list" #[] 0)).update s.heap.objs.size (Obj.mapSeq (· ++ vs.toArray))).push (PyProof.Rows.seqObj "list" vs.toArray 0)).get? (s.heap.objs.size + 1) = some (PyProof.Rows.seqObj "list" vs.toArray 0) := by
    rw [← hsz]; exact Heap.get?_push_size _ rfl
  have keep : ∀ b o, s.heap.get? b = some o → b ≠ s.heap.objs.size + 1 ∧ (((s.heap.push (PyProof.Rows.seqObj "list" #[] 0)).update s.heap.objs.size (Obj.mapSeq (· ++ vs.toArray))).push (PyProof.Rows.seqObj "list" vs.toArray 0)).get? b = some o := fun b o q => by
    have hlt : b < s.heap.objs.size := Heap.lt_size q
    refine ⟨Nat.ne_of_lt (Nat.lt_succ_of_lt hlt), Heap.get?_push_of_some _ ?_⟩
    rw [Heap.get?_update_ne _ _ _ _ (Nat.ne_of_lt hlt)]
    exact Heap.get?_push_of_some _ q
  show wpAny _ _ _ _ _ { s with heap := ((s.heap.push (PyProof.Rows.seqObj "list" #[] 0)).update s.heap.objs.size (Obj.mapSeq (· ++ vs.toArray))).push (PyProof.Rows.seqObj "list" vs.toArray 0) }
  rw [hsz]
  refine wpAny_bind (wpAny_holding (wpAny_call_entry PyProof.Rows.slot_list_sort ⟨_, hoL, rfl⟩ PyProof.Rows.entry_list_sort (SrtO.list_sort_ord O hoL hz (fun h2 => hS h2 _ _ hoL keep) fun out hs hb => ⟨_, rfl, ?_⟩) (PyProof.Rows.args_list_sort _)))
  exact wpAny_pure ⟨_, rfl, h out hs hb⟩
/-! rows of ints -/
def IsRow (h : Heap) (v : Value) (ns : List Int) : Prop := ∃ (a : Addr) (o : Obj) (xs : List Value) (n : Nat), v = .ref a ∧ h.get? a = some o ∧ o.cls = .type "tuple" ∧ o.data = .seq xs.toArray n ∧ Vals (ns.map V.int) xs
theorem IsRow.keeps {h h' : Heap} {v : Value} {ns : List Int} (r : IsRow h v ns) (k : ∀ b o, h.get? b = some o → o.cls = .type "tuple" → h'.get? b = some o) : IsRow h' v ns := by
  obtain ⟨a, o, xs, n, e, h1, h2, h3, h4⟩ := r
  exact ⟨a, o, xs, n, e, k a o h1 h2, h2, h3, h4⟩
theorem row_lex {Q : Bool → Shared → Prop} (fin : Bool) : ∀ (ns ms : List Int) (xs ys : List Value) (i : Nat), Vals (ns.map V.int) xs → Vals (ms.map V.int) ys → fin = decide (ns.length < ms.length) → Q (lexI ns ms) s →
    PySem.W.KatLex prog w A true fin Q (xs.zip ys) i s
  | [], ms, xs, ys, i, h1, h2, hf, hq => by
    cases h1
    refine PySem.W.kat_nil ?_
    cases ms with
    | nil => rw [hf]; exact hq
    | cons m ms => rw [hf]; simpa [lexI] using hq
  | n :: ns, [], xs, ys, i, h1, h2, hf, hq => by
    cases h2
    rw [List.zip_nil_right]
    refine PySem.W.kat_nil ?_
    rw [hf]; simpa [lexI] using hq
  | n :: ns, m :: ms, xs, ys, i, h1, h2, hf, hq => by
    cases h1 with
    | cons r1 t1 =>
      cases h2 with
      | cons r2 t2 =>
        obtain ⟨t, rfl⟩ := r1
        obtain ⟨u, rfl⟩ := r2
        rw [List.zip_cons_cons]
        refine PySem.W.kat_cons (SeqAt.EqAt.int_int n t m u prog w _ _ ?_)
        refine PySem.W.kat_go (fun e1 => ?_) (fun e1 => ?_)
        · have ex : n = m := by simpa using e1
          subst ex
          refine PySem.W.kat_yes (row_lex fin ns ms _ _ (i + 1) t1 t2 (by rw [hf]; simp) ?_)
          simpa [lexI, ieq_self] using hq
        · have ex : ¬ n = m := by simpa using e1
          refine PySem.W.kat_no (TS.oneLt_ints _ ?_)
          simpa [lexI, ieq_false ex] using hq
theorem rows_cmp {vs : List Value} {k : Value → List Int} (hp : ∀ v ∈ vs, IsRow s.heap v (k v)) : SrtO.Cmp prog w A s (PyProof.Rows.tuples' true) (fun p => p.1 ∈ vs) (SrtO.lt2 fun v u => lexI (k v) (k u)) := by
  intro p q hm hm'
  obtain ⟨a, o, xs, n, e, h1, h2, h3, h4⟩ := hp _ hm
  obtain ⟨a', o', xs', n', e', h1', h2', h3', h4'⟩ := hp _ hm'
  show wpAny (model prog w) A (PyProof.Rows.keyLt' (PyProof.Rows.tuples' true) p.1 q.1) (fun r s' => s' = s ∧ r = lexI (k p.1) (k q.1)) (fun _ _ => False) s
  generalize k p.1 = kp at h4 ⊢
  generalize k q.1 = kq at h4' ⊢
  rw [e, e']
  refine PySem.W.kat_lt h1 h3 h1' h3' ?_
  have hl1 := h4.length
  have hl2 := h4'.length
  rw [List.length_map] at hl1 hl2
  exact row_lex _ kp kq xs xs' 0 h4 h4' (by simp [hl1, hl2]) ⟨rfl, rfl⟩
end
end DL

/-! sorted: the rule -/
namespace DL
open PySem PySem.Spec L2
section
variable {prog : Program} {w : World} {A : Around} {E : Value → Shared → Prop} {s : Shared}
theorem rows_firsts {h : Heap} {k : Value → List Int} : ∀ {vs : List Value}, (∀ v ∈ vs, IsRow h v (k v) ∧ k v ≠ []) → ∃ fs : List Value, PySem.W.KatTups h vs fs ∧ fs.length = vs.length ∧ ∀ f ∈ fs, ∃ x t, f = Value.int x t
  | [], _ => ⟨[], PySem.W.KatTups.nil, rfl, fun _ hm => by simp at hm⟩
  | v :: vs, hp => by
    obtain ⟨fs, h1, h2, h3⟩ := rows_firsts (vs := vs) fun v' hm => hp v' (List.mem_cons_of_mem _ hm)
    obtain ⟨⟨a, o, xs, n, e, ho, hc, hd, hv⟩, hne⟩ := hp v (List.mem_cons_self ..)
    subst e
    cases ek : k (.ref a) with
    | nil => exact absurd ek hne
    | cons i is =>
      rw [ek] at hv
      cases hv with
      | cons r t =>
        obtain ⟨u, rfl⟩ := r
        refine ⟨.int i u :: fs, PySem.W.KatTups.cons ho hc hd rfl h1, by rw [List.length_cons, List.length_cons, h2], fun f hm => ?_⟩
        rcases List.mem_cons.mp hm with rfl | hm
        · exact ⟨i, u, rfl⟩
        · exact h3 f hm
theorem rows_sortable {a : Addr} {vs : List Value} {k : Value → List Int} (h0 : 0 < vs.length) (hp : ∀ v ∈ vs, IsRow s.heap v (k v) ∧ k v ≠ []) (ha : ∀ o, s.heap.get? a = some o → o.cls ≠ .type "tuple") : SrtO.SortableO prog w A s a vs fun v u => lexI (k v) (k u) := by
  intro h' keep
  have hp' : ∀ v ∈ vs, IsRow h' v (k v) ∧ k v ≠ [] := fun v hm => ⟨(hp v hm).1.keeps fun b o e c => keep b o (fun z => by subst z; exact ha o e c) e, (hp v hm).2⟩
  obtain ⟨fs, h1, h2, h3⟩ := rows_firsts hp'
  refine ⟨PyProof.Rows.tuples' true, fun Q E hq => ?_, rows_cmp (s := { s with heap := h' }) fun v hm => (hp' v hm).1⟩
  refine PySem.W.kat_kind (T := .type "int") h1 (by omega) (fun f hm => ?_) (by rfl) ?_
  · obtain ⟨x, t, rfl⟩ := h3 f hm
    exact PySem.W.Looks.now
  · have e : (Value.type "int" != Value.type "tuple") = true := by first | decide +kernel | rfl | decide
    rw [e]
    exact hq
end
/-- what sorted asks and gives -/
def rSrt (K : PySem.W.Frag) : List V → Hp → VK → Prop := fun vs H Q => ∃ (a : Addr) (ys : List V), vs = [V.ref a] ∧ (SqL K H a ys ∨ SqT K H a ys) ∧
  ((∃ ns : List Int, ys = ns.map V.int ∧ ∀ (ns' : List Int) (p : Addr), ns'.Perm ns → ns'.Pairwise (· ≤ ·) → H p = none → Q (.ref p) (upd H p (.lst (ns'.map V.int)))) ∨
   (∃ k : V → List Int, (∀ y ∈ ys, ∃ t, y = V.ref t ∧ H t = some (.tup ((k y).map V.int)) ∧ k y ≠ []) ∧ ∀ (zs : List V) (p : Addr), zs.Perm ys → zs.Pairwise (fun x y => lexI (k y) (k x) = false) → H p = none → Q (.ref p) (upd H p (.lst zs))))
section
variable {X : Cx} {N : Nm} {E : XK}
theorem cr_srt : CallR X (.builtin "sorted") (rSrt X.K) := by
  intro pins s σ H vs us Q I r h
  obtain ⟨a, ys, rfl, hs, h⟩ := h
  obtain ⟨its, rv, hz, T, o, n, hT, ho, hc, hd⟩ : ∃ its : List Value, Vals ys its ∧ ys.length ≤ sizeLine ∧ ∃ (T : String) (o : Obj) (n : Nat), (T = "list" ∨ T = "tuple") ∧ s.heap.get? a = some o ∧ o.cls = .type T ∧ o.data = .seq its.toArray n := by
    rcases hs with hs | hs
    · obtain ⟨its, rv, hl, hz⟩ := I.list hs
      obtain ⟨o, h1, h2, n, h3⟩ := hl.isList
      exact ⟨its, rv, hz, "list", o, n, .inl rfl, h1, h2, h3⟩
    · obtain ⟨its, rv, ⟨o, h1, h2, n, h3⟩, hz⟩ := I.tuple hs
      exact ⟨its, rv, hz, "tuple", o, n, .inr rfl, h1, h2, h3⟩
  rw [Vals.ref1 r]
  have hz' : its.length ≤ sizeLine := by rw [← rv.length]; exact hz
  rcases h with ⟨ns, rfl, q⟩ | ⟨k, hx, q⟩
  · have hi := rv.ints
    refine sorted_seq SrtO.swo_int hT ho hc hd hz' (fun h2 h₁ a' _ _ => SrtO.ints_sortable hi h2) fun out h1 h2 => ?_
    obtain ⟨k1, k2, k3⟩ := SrtO.ints_out hi h1 h2
    obtain ⟨ep, he'⟩ := PyProof.Rows.sortedAll_at s.heap its out.toArray
    have hlen : ((out.map SrtO.iv).map V.int).length ≤ sizeLine := by
      rw [List.length_map, k2.length_eq]
      rw [List.length_map] at hz
      exact hz
    exact ⟨.ref _, upd H (s.heap.objs.size + 1) (.lst ((out.map SrtO.iv).map V.int)), I.laid (t' := s.toks) (fun _ _ => PyProof.Rows.sortedAll_old) (Nat.le_succ _) ⟨hlen, out, ep, vals_of_ints k1, he'⟩, rfl, q _ _ k2 k3 (I.hok.fresh (Nat.le_succ _))⟩
  · obtain ⟨e1, e2⟩ := refs_back rv fun x m => by
      obtain ⟨t, e, _⟩ := hx x m
      exact ⟨t, e⟩
    have hp : ∀ v ∈ its, IsRow s.heap v (k (backV v)) ∧ k (backV v) ≠ [] := fun v hv => by
      obtain ⟨t, rfl⟩ := e2 v hv
      have hm : V.ref t ∈ ys := by rw [e1]; exact List.mem_map.mpr ⟨_, hv, rfl⟩
      obtain ⟨t', e, ht, hne⟩ := hx _ hm
      cases e
      obtain ⟨_, its2, r2, o, ho, hc, n, hd⟩ := I.hok _ _ ht
      exact ⟨⟨t, o, its2, n, rfl, ho, hc, hd, r2⟩, hne⟩
    refine sorted_seq (lexI_swo fun v => k (backV v)) hT ho hc hd hz' (fun h2 h₁ a ha kk => ?_) fun out hs hb => ?_
    · refine rows_sortable (s := { s with heap := h₁ }) (k := fun v => k (backV v)) (by omega) (fun v hm => ⟨(hp v hm).1.keeps fun b o e _ => (kk b o e).2, (hp v hm).2⟩) fun o e => ?_
      have e' : some o = some (PyProof.Rows.seqObj "list" its.toArray 0) := e.symm.trans ha
      cases e'
      intro c
      exact absurd (Value.type.inj c) (by decide)
    · have h3 : ∀ u ∈ out, ∃ a, u = Value.ref a := fun u hu => e2 u (hb.perm.mem_iff.mp hu)
      obtain ⟨ep, he'⟩ := PyProof.Rows.sortedAll_at s.heap its out.toArray
      refine ⟨.ref _, upd H (s.heap.objs.size + 1) (.lst (out.map backV)), I.laid (t' := s.toks) (fun _ _ => PyProof.Rows.sortedAll_old) (Nat.le_succ _) ⟨?_, out, ep, vals_back h3, he'⟩, rfl, q _ _ ?_ ?_ (I.hok.fresh (Nat.le_succ _))⟩
      · rw [List.length_map, hb.perm.length_eq, ← rv.length]; exact hz
      · rw [e1]; exact hb.perm.map backV
      · exact List.pairwise_map.mpr hs
/-! ### read by trees -/
def intsOf : List D → Option (List Int)
  | [] => some []
  | .int i :: t => match intsOf t with
    | some l => some (i :: l)
    | none => none
  | _ :: _ => none
def rowsOf : List D → Option (List (List Int))
  | [] => some []
  | .tup (x :: xs) :: t => match intsOf (x :: xs), rowsOf t with
    | some r, some l => some (r :: l)
    | _, _ => none
  | _ :: _ => none
def unI : List Int → D
  | i :: _ => .int i
  | [] => .non
def rowD (r : List Int) : D := .tup (r.map D.int)
def srtL (l : List D) : Option (List D) := match intsOf l with
  | some ns => some ((sortI (ns.map fun i => [i])).map unI)
  | none => match rowsOf l with
    | some rs => some ((sortI rs).map rowD)
    | none => none
def gSrt (d : D) (η : Hd) : Option (D × Hd) := match d with
  | .tup l => match Nat.ble l.length line, srtL l with
    | true, some m => some (.ref η.nx, η.new (.lst m))
    | _, _ => none
  | .ref r => match η.list r with
    | some l => match srtL l with
      | some m => some (.ref η.nx, η.new (.lst m))
      | none => none
    | none => none
  | _ => none
theorem intsOf_eq : ∀ {l : List D} {ns : List Int}, intsOf l = some ns → l = ns.map D.int
  | [], ns, h => by cases h; rfl
  | d :: t, ns, h => by
    cases d with
    | int i =>
      simp only [intsOf] at h
      cases e : intsOf t with
      | none => rw [e] at h; cases h
      | some m => rw [e] at h; cases h; rw [intsOf_eq e]; rfl
    | _ => cases h
theorem rowsOf_eq : ∀ {l : List D} {rs : List (List Int)}, rowsOf l = some rs → l = rs.map rowD ∧ ∀ r ∈ rs, r ≠ []
  | [], ns, h => by cases h; exact ⟨rfl, fun r m => by simp at m⟩
  | d :: t, ns, h => by
    cases d with
    | tup xs =>
      cases xs with
      | nil => cases h
      | cons x xs =>
        simp only [rowsOf] at h
        cases e1 : intsOf (x :: xs) with
        | none => rw [e1] at h; cases h
        | some r =>
          cases e2 : rowsOf t with
          | none => rw [e1, e2] at h; cases h
          | some m =>
            rw [e1, e2] at h
            cases h
            have q := intsOf_eq e1
            obtain ⟨q1, q2⟩ := rowsOf_eq e2
            refine ⟨by rw [q, q1]; rfl, fun r' hm => ?_⟩
            rcases List.mem_cons.mp hm with rfl | hm
            · intro z; subst z; cases q
            · exact q2 r' hm
    | _ => cases h
theorem rel_ints {W : Wl} : ∀ {ns : List Int} {vs : List V}, RelDs W (ns.map D.int) vs → vs = ns.map V.int
  | [], vs, h => by rw [List.map_nil, RelDs] at h; exact h
  | n :: ns, vs, h => by
    rw [List.map_cons, RelDs] at h
    obtain ⟨v, vs', rfl, h1, h2⟩ := h
    rw [rel_ints h2]
    rw [RelD] at h1
    rw [h1]; rfl
theorem ints_rel {W : Wl} : ∀ {ns : List Int}, RelDs W (ns.map D.int) (ns.map V.int)
  | [] => by rw [List.map_nil, RelDs]; rfl
  | n :: ns => RelDs.cons mkInt ints_rel
def unV : V → Int
  | .int i => i
  | _ => 0
theorem unV_map (ns : List Int) : (ns.map V.int).map unV = ns := by rw [List.map_map]; exact (List.map_congr_left fun _ _ => rfl).trans (List.map_id ns)
def rowV (H : Hp) : V → List Int
  | .ref t => match H t with
    | some (.tup us) => us.map unV
    | _ => []
  | _ => []
theorem rel_rows {W : Wl} : ∀ {rs : List (List Int)} {vs : List V}, RelDs W (rs.map rowD) vs → vs.map (rowV W.H) = rs ∧ ∀ v ∈ vs, ∃ t, v = V.ref t ∧ W.H t = some (.tup ((rowV W.H v).map V.int))
  | [], vs, h => by rw [List.map_nil, RelDs] at h; subst h; exact ⟨rfl, fun v m => by simp at m⟩
  | r :: rs, vs, h => by
    rw [List.map_cons, RelDs] at h
    obtain ⟨v, vs', rfl, h1, h2⟩ := h
    obtain ⟨q1, q2⟩ := rel_rows h2
    obtain ⟨a, us, rfl, ha, hr⟩ := relTup h1
    have hr' := rel_ints hr
    subst hr'
    have e : rowV W.H (V.ref a) = r := by simp only [rowV, ha]; exact unV_map r
    refine ⟨by rw [List.map_cons, e, q1], fun v hm => ?_⟩
    rcases List.mem_cons.mp hm with rfl | hm
    · exact ⟨a, rfl, by rw [e]; exact ha⟩
    · exact q2 v hm
theorem rows_rel {W : Wl} : ∀ {vs : List V}, (∀ v ∈ vs, ∃ t, v = V.ref t ∧ W.H t = some (.tup ((rowV W.H v).map V.int))) → RelDs W ((vs.map (rowV W.H)).map rowD) vs
  | [], _ => by rw [List.map_nil, List.map_nil, RelDs]
  | v :: vs, h => by
    obtain ⟨t, e, ht⟩ := h v (List.mem_cons_self ..)
    refine RelDs.cons ?_ (rows_rel fun u hu => h u (List.mem_cons_of_mem _ hu))
    rw [e] at ht ⊢
    exact mkTup ht ints_rel
theorem srt_one {ns ns' : List Int} (p : ns'.Perm ns) (h : ns'.Pairwise (· ≤ ·)) : ns'.map (fun i => [i]) = sortI (ns.map fun i => [i]) := by
  refine srI_uniq ((p.map _).trans (sortI_perm _).symm) (List.pairwise_map.mpr (h.imp fun {x y} q => ?_)) (sortI_sorted _)
  simp only [lexI]
  by_cases e : y = x
  · subst e; rw [ieq_self]
  · rw [ieq_false e]; exact decide_eq_false (by omega)
theorem blt_sorted : CallR X (.builtin "sorted") (rN X.K N (f1 gSrt)) := CallR.imp cr_srt fun xs H Q q => by
  obtain ⟨W, ds, d, η', rfl, o, rs, hf, hq⟩ := q
  obtain ⟨x, rfl, hg⟩ := f1_inv hf
  clear hf
  obtain ⟨v, rfl, rx⟩ := rel1 rs
  obtain ⟨a, l, m, ys, rfl, hs, ry, hm, rfl, rfl, hl⟩ : ∃ a l m ys, v = V.ref a ∧ (SqL X.K W.H a ys ∨ SqT X.K W.H a ys) ∧ RelDs W l ys ∧ srtL l = some m ∧ d = .ref W.η.nx ∧ η' = W.η.new (.lst m) ∧ l.length ≤ sizeLine := by
    cases x with
    | tup l =>
      simp only [gSrt] at hg
      obtain ⟨p, vs, rfl, hs, rs⟩ := relTup rx
      cases e1 : Nat.ble l.length line with
      | false => rw [e1] at hg; cases hg
      | true =>
        cases e2 : srtL l with
        | none => rw [e1, e2] at hg; cases hg
        | some m =>
          rw [e1, e2] at hg
          cases hg
          exact ⟨p, l, m, vs, rfl, .inr (SqT.of hs), rs, e2, rfl, rfl, Nat.le_of_ble_eq_true e1⟩
    | ref r =>
      simp only [gSrt] at hg
      cases e : W.η.list r with
      | none => rw [e] at hg; cases hg
      | some l =>
        rw [e] at hg
        simp only at hg
        cases e2 : srtL l with
        | none => rw [e2] at hg; cases hg
        | some m =>
          rw [e2] at hg
          cases hg
          obtain ⟨vs, g1, g2, g3⟩ := list_of o e
          exact ⟨_, l, m, vs, relRef rx, .inl g1, g2, e2, rfl, rfl, g3⟩
    | _ => cases hg
  refine ⟨a, ys, rfl, hs, ?_⟩
  unfold srtL at hm
  cases e1 : intsOf l with
  | some ns =>
    rw [e1] at hm
    cases hm
    have el := intsOf_eq e1
    subst el
    refine .inl ⟨ns, rel_ints ry, fun ns' p p1 p2 hp => ?_⟩
    have e := srt_one p1 p2
    have e3 : (sortI (ns.map fun i => [i])).map unI = ns'.map D.int := by
      rw [← e, List.map_map]; exact List.map_congr_left fun _ _ => rfl
    rw [e3] at hq
    refine new_lst o hq hp ints_rel ?_
    rw [List.length_map] at hl ⊢
    rw [p1.length_eq]; exact hl
  | none =>
    rw [e1] at hm
    simp only at hm
    cases e2 : rowsOf l with
    | none => rw [e2] at hm; cases hm
    | some rs =>
      rw [e2] at hm
      cases hm
      obtain ⟨el, hne⟩ := rowsOf_eq e2
      subst el
      obtain ⟨q1, q2⟩ := rel_rows ry
      refine .inr ⟨rowV W.H, fun y hy => ?_, fun zs p p1 p2 hp => ?_⟩
      · obtain ⟨t, e, ht⟩ := q2 y hy
        exact ⟨t, e, ht, hne _ (by rw [← q1]; exact List.mem_map_of_mem hy)⟩
      · have e : zs.map (rowV W.H) = sortI rs := srI_uniq ((p1.map _).trans (by rw [q1]; exact (sortI_perm _).symm)) (List.pairwise_map.mpr p2) (sortI_sorted _)
        rw [← e] at hq
        refine new_lst o hq hp (rows_rel fun u hu => q2 u (p1.mem_iff.mp hu)) ?_
        rw [List.length_map] at hl ⊢
        have := p1.length_eq
        have h2 := congrArg List.length q1
        rw [List.length_map] at h2 ⊢
        omega
end
end DL

/-! methods called; a lambda handed to a def that tells its exceptions -/
namespace DL
open PySem PySem.Spec L2
section
variable {X : Cx} {N : Nm} {E : XK}
theorem je_mt {id : String} {name : Str} {f : FM} {o e : Expr} {es : List Expr} {co : CE} {c : CA} {apos cpos : Pos} (pa : PlainAttrs "list") (slot : Slot "list" name id) (hty : typeOf (.builtin id) = pure (.type "method_descriptor")) (hm : MtR X id (rM X.K N f)) (ho : JE X N E o co) (ha : JA X N E (e :: es) c)
    (hbase : attributeBase o name X.env (eval o X.env) = eval o X.env := by rfl)
    (hfew : ((backTo cpos (starEach (e :: es) X.env)).all (fun x => !x.1) && (backToKw cpos (keywordEach [] X.env)).all (fun x => x.1.isSome)
      && decide ((e :: es).length + ([] : List Keyword).length + (if ([] : List Keyword).isEmpty then 0 else 1) < 30)) = true := by rfl)
    (hline : (apos.endLine == cpos.line) = true := by rfl) (hs : starEach (e :: es) X.env = (false, eval e X.env) :: starEach es X.env := by rfl) (hplain : (backTo cpos (starEach es X.env)).any (·.1) = false := by rfl) :
    JE X N E (.Call (.Attribute o name apos) (e :: es) [] cpos) (cMt f co c) :=
  PE.imp (pe_bm pa slot hty hm ho ha hbase hfew hline hs hplain) fun σ H Q q => tBM_of q
/-- x.f(): no argument -/
def cMt0 (f : FM) (o : CE) : CE := fun σ η kv kx => o σ η (fun x η1 => match isL η1 x with
  | true => match f x [] η1 with
    | some (d, η2) => kv d η2
    | none => false
  | false => false) kx
theorem je_mt0 {id : String} {name : Str} {f : FM} {o : Expr} {co : CE} {apos cpos : Pos} (pa : PlainAttrs "list") (slot : Slot "list" name id) (hty : typeOf (.builtin id) = pure (.type "method_descriptor")) (hm : MtR X id (rM X.K N f)) (ho : JE X N E o co)
    (hbase : attributeBase o name X.env (eval o X.env) = eval o X.env := by rfl) (hline : (apos.endLine == cpos.line) = true := by rfl) :
    JE X N E (.Call (.Attribute o name apos) [] [] cpos) (cMt0 f co) :=
  PE.imp (pe_bm0 pa slot hty hm ho hbase hline) fun σ H Q q => by
    obtain ⟨W, σd, kv, kx, rfl, o, s, h, hv, hx⟩ := q
    refine tE.bind o s hx h fun W1 d v x1 o1 r1 s1 hx1 h1 => ?_
    cases e : isL W1.η d with
    | false => rw [e] at h1; cases h1
    | true =>
      rw [e] at h1
      refine ⟨isL_ty o1 r1 e, ?_⟩
      simp only at h1
      cases e2 : f d [] W1.η with
      | none => rw [e2] at h1; cases h1
      | some p =>
        obtain ⟨d2, η2⟩ := p
        rw [e2] at h1
        exact ⟨W1, d, [], d2, η2, rfl, o1, r1, .nil, e2, fun W' v x3 o3 e3 r3 => hv W' d2 v (x1.trans o o1 x3) o3 r3 (by rw [e3]; exact h1)⟩
/-! ### told -/
def wStr (K : PySem.W.Frag) : List (Value × Str) → Value → (Str → Prop) → Prop
  | [], _, _ => False
  | (c, r) :: l, cls, P => ∃ b, PySem.W.exmOne K cls c = some b ∧ (b = true → P r) ∧ (b = false → wStr K l cls P)
def TTm (K : PySem.W.Frag) (l : List (Value × Str)) : (XK → Hp → VK → Prop) → Hp → VK → Prop := fun tl H Q =>
  tl (fun cls _ H' => wStr K l cls (fun r => Q (.str r) H')) H Q
inductive HdsS (mg : Str → Option Value) (sg : Scope) : List ExceptHandler → List (Value × Str) → Prop
  | nil : HdsS mg sg [] []
  | cons {e ret : Str} {c : Value} {p4 p5 p6 p7 : Pos} {j} {hds : List ExceptHandler} {l : List (Value × Str)} (hge : sg.names.lookup e = some .globalImplicit) (hme : mg e = some c) (hde : (e == ("__debug__" : Str)) = false) (r : HdsS mg sg hds l) :
      HdsS mg sg (.ExceptHandler (some (.Name e p4)) none [.Return (some (.Constant (.str ret) j p5)) p6] p7 :: hds) ((c, ret) :: l)
def tsOf (l : List (Value × Str)) : List (Value × (Addr → Value → Option Addr → TS)) := l.map fun p => (p.1, fun _ _ _ D _ H => D.rt (.str p.2) H)
theorem HdsS.ok {Y : Cx} {sg : Scope} (hs : Y.env.scope = sg) {hds : List ExceptHandler} {l : List (Value × Str)} (h : HdsS Y.mg sg hds l) : HdsOk Y hds (tsOf l) := by
  induction h with
  | nil => exact .nil
  | cons hge hme hde r ih =>
    refine HdsOk.cons ⟨?_, hde, .inl hme⟩ (fun a oe cls d pn _ _ => ?_) ih
    · subst hs; exact hge
    · exact pss_one (ps_ret pe_str)
theorem wMany_of {K : PySem.W.Frag} {Z : Ends} {cls : Value} {d : Option Addr} {σ : St} {H : Hp} : ∀ {l : List (Value × Str)}, wStr K l cls (fun r => Z.rt (.str r) H) → wMany K (fun _ _ _ _ => False) Z (tsOf l) cls d σ H
  | [], h => h
  | (c, r) :: l, h => by
    obtain ⟨b, e1, e2, e3⟩ := h
    exact ⟨b, e1, fun hb a _ => e2 hb, fun hb => wMany_of (e3 hb)⟩
theorem told_many {Ng : List Str} {x a q : Str} {sg : Scope} {g : Addr} {cdg : Value} {p1 p2 p3 p8 : Pos} {h₀ : ExceptHandler} {hds : List ExceptHandler} {l : List (Value × Str)} (hh : HdsS X.mg sg (h₀ :: hds) l) (h0 : ∀ f : Addr, (L2.start Ng [V.ref f])[0]? = some (some (V.ref f))) :
    LamX.GivesTo X Ng x sg g cdg [.Try [.Return (some (.Call (.Name a p1) [] [] p2)) p3] (h₀ :: hds) [] [] p8] a q (TTm X.K l) := by
  intro f c' s H Q tl act hc h
  refine ⟨_, pss_one (ps_try_many (X := (cxOf C8.CX0 X.prog X.w X.K X.mg X.base Ng x sg g cdg X.A X.stack s H C8.E0).nox) (l := tsOf l)
      (tb := fun W D σ H => ∃ Ech : XK, (∀ cls d σ' H', Ech cls d H' → W cls d σ' H') ∧ σ[0]? = some (some (.ref f)) ∧ H c' = some (LamX.CodeO c' q) ∧ tl Ech H D.rt)
      rfl rfl LamX.takes0 (fun W pn xe tk _ => ?_) (HdsS.ok (Y := (cxOf C8.CX0 X.prog X.w X.K X.mg X.base Ng x sg g cdg X.A X.stack s H C8.E0).nox) (sg := sg) rfl hh)), ?_⟩
  · refine ⟨fun pins s' σ H' D I h' => ?_⟩
    obtain ⟨Ech, hW, h1, h2, h3⟩ := h'
    have hp := act W pn xe Ech p1 p2 tk hW
    have hq := pss_one (ps_ret (pos := p3) hp)
    exact hq.run pins s' σ H' D I ⟨h1, h2, h3⟩
  · exact ⟨fun cls _ H' => wStr X.K l cls (fun r => Q (.str r) H'), fun cls d σ' H' h => wMany_of h, h0 f, hc, h⟩
def cTold (hm : Nat → Option Str) (cb : CE) : CE := fun σ η kv kx => cb σ η kv (fun x η1 => match hm x.c with
  | some r => kv (.str r) η1
  | none => false)
def HmOk (K : PySem.W.Frag) (N : Nm) (l : List (Value × Str)) (hm : Nat → Option Str) : Prop := ∀ c r, hm c = some r → ∀ P : Str → Prop, P r → wStr K l (.ref (N.cls c)) P
/-- a world where tables grow -/
theorem Wl.Ok.grown {K : PySem.W.Frag} {N : Names} {W : Wl} (o : W.Ok K N) {H1 : Hp} (eN : LamX.ExtN W.H H1) (T1 : LamX.Tabs N.tabs H1) : Ext W ⟨W.μ, W.η, H1⟩ ∧ Wl.Ok K N ⟨W.μ, W.η, H1⟩ := by
  have x : Ext W ⟨W.μ, W.η, H1⟩ := ⟨Nat.le_refl _, fun _ _ => rfl, fun a u h t _ => eN a u h t, fun a u h t => ⟨u, eN a u h t, t⟩, fun r c e => .inl ⟨c, e, id⟩⟩
  exact ⟨x, o.lt, fun r c e => (o.cell r c e).mono o x (fun ob t h => eN _ ob h t), o.inj, T1⟩
theorem je_told {l : List (Value × Str)} {hm : Nat → Option Str} {x a : Str} {g c P : Addr} {k : Nat} {pg : Arguments} {bg : List Stmt} {sg : Scope} {dV kV doc pm cdv ct oc : Value} {an od : Option Addr} {osl : Array (Option Value)} {Ng : List Str}
    {params : Arguments} {body : Expr} {scope : Scope} {cb : CE} {p lpos pos : Pos} (hg : Gl X x) (hmg : X.mg x = some (.ref g)) (hk : PySem.W.keepIn X.K (.ref g) = true)
    (lk : X.K.lookup g = some ⟨oc, od, .func (PySem.W.fnOf x x pg bg sg dV kV doc pm an cdv ct), osl⟩) (hcg : PySem.W.codeIn X.K cdv x = true) (hb : L2.Binds X.K (PySem.W.fnOf x x pg bg sg dV kV doc pm an cdv ct) [a] []) (Sg : FnScope Ng [a] sg) (hNg : Ng[0]? = some a) (hva : Vis sg a)
    (hG : LamX.GivesTo X Ng x sg g cdv bg a (X.env.qual ++ "<lambda>") (TTm X.K l)) (hH : HmOk X.K N l hm)
    (TB : LamX.TabB X.base X.mg c P) (hcode : X.env.code = .ref c) (hmT : (P, X.env.qual ++ "<lambda>") ∈ N.tabs) (hu : ∀ p ∈ N.tabs, p.1 = P → p.2 = X.env.qual ++ "<lambda>") (hr : Room (k + 2) X.A) (L : LamX.LamS X.env.scope scope) (hdef : defaultsOf params X.env = ([], []))
    (hbind : ∀ (q : Str) (cl : List (Str × Addr)) (pm cv ctv : Value), bindArgs (PySem.W.kla_fn "<lambda>" q params body scope cl pm cv ctv) ⟨[], []⟩ = pure [])
    (hbody : ∀ (A : Around) (outer : List Env) (s : Shared) (H : Hp) (E : XK) (f c' : Addr), Room k (A.deeper (LamX.lamEnv X scope s.heap.objs.size f c')) → JE (LamX.lamCx X A outer s H E scope f c') N E body cb)
    (hdb : (x == ("__debug__" : Str)) = false := by decide) (hd : (a == ("__debug__" : Str)) = false := by decide) (hcd : (a == ("__classdict__" : Str)) = false := by decide) :
    JE X N E (.Call (.Name x p) [.Lambda params body scope lpos] [] pos) (cTold hm cb) :=
  PE.imp (LamX.pe_lamcall (T := N.tabs) (t := fun E => tE X.K N E cb) hg hmg hk lk hcg hb Sg hNg hva hG TB hcode hmT hu hr L hdef hbind hbody hdb hd hcd) fun σ H Q q => by
    obtain ⟨W, σd, kv, kx, rfl, o, s, h, hv, hx⟩ := q
    refine ⟨o.tab, fun H1 eN T1 => ?_⟩
    obtain ⟨x1, o1⟩ := o.grown eN T1
    refine ⟨⟨W.μ, W.η, H1⟩, σd, kv, _, rfl, o1, s.mono o x1, h, hv.mono o o1 x1, fun W' xx cls dd x2 o2 rx e => ?_⟩
    dsimp only at e
    cases em : hm xx.c with
    | none => rw [em] at e; cases e
    | some r =>
      rw [em] at e
      have := rx.1
      subst this
      exact hH _ _ em _ (hv W' (.str r) (.str r) (x1.trans o o1 x2) o2 mkStr' e)
end
end DL

/-! states forgotten, tables of results, dice, the law's own loop -/
namespace DL
open PySem PySem.Spec L2
section
variable {X : Cx} {N : Nm} {E : XK}
def ipow (i j : Int) : Int := i ^ j.toNat
def powOk (i j : Int) : Bool := match j with
  | .ofNat n => Nat.ble n 1000 && Nat.ble i.natAbs 1000000000000000000
  | _ => false
theorem powOk_ok (i j : Int) (h : powOk i j = true) : CPow i j := by
  unfold powOk at h
  split at h
  · rename_i n
    obtain ⟨h1, h2⟩ := Bool.and_eq_true_iff.mp h
    have h1 := Nat.le_of_ble_eq_true h1
    have h2 := Nat.le_of_ble_eq_true h2
    exact ⟨by show (0 : Int) ≤ (n : Int); omega, by show (n : Int) ≤ _; omega, by omega⟩
  · cases h
def fPow : F2 := fI2c powOk ipow
theorem opd_pow : OpR X (binaryOp .Pow) (r2 X.K N fPow) := opd_intc op_pow powOk_ok fun _ _ => rfl
end
/-! ### the same data -/
def same : Nat → D → D → Bool
  | _, .int i, .int j => ieq i j
  | _, .non, .non => true
  | _, .bl a, .bl b => a == b
  | _, .str x, .str y => x == y
  | _, .ref a, .ref b => Nat.beq a b
  | n + 1, .tup a, .tup b => eqL (same n) a b
  | _, _, _ => false
theorem eqL_eq {f : D → D → Bool} (hf : ∀ a b, f a b = true → a = b) : ∀ {a b : List D}, eqL f a b = true → a = b
  | [], [], _ => rfl
  | x :: xs, y :: ys, h => by
    simp only [eqL] at h
    cases e : f x y with
    | true => rw [e] at h; rw [hf _ _ e, eqL_eq hf h]
    | false => rw [e] at h; cases h
  | [], _ :: _, h => by simp [eqL] at h
  | _ :: _, [], h => by simp [eqL] at h
theorem same_eq : ∀ (n : Nat) (a b : D), same n a b = true → a = b := by
  intro n
  induction n with
  | zero =>
    intro a b h
    cases a <;> cases b <;> first | rfl | (simp only [same] at h; first | cases h | exact congrArg D.int (ieq_iff.mp h) | exact congrArg D.bl (beq_iff_eq.mp h) | exact congrArg D.str (beq_iff_eq.mp h) | exact congrArg D.ref (Nat.eq_of_beq_eq_true h))
  | succ n ih =>
    intro a b h
    cases a <;> cases b <;> first | rfl | (simp only [same] at h; first | cases h | exact congrArg D.int (ieq_iff.mp h) | exact congrArg D.bl (beq_iff_eq.mp h) | exact congrArg D.str (beq_iff_eq.mp h) | exact congrArg D.ref (Nat.eq_of_beq_eq_true h) | exact congrArg D.tup (eqL_eq ih h))
/-- its cells are below n -/
def below : Nat → Nat → D → Bool
  | _, n, .ref r => Nat.ble (Nat.succ r) n
  | f + 1, n, .tup l => l.all (below f n)
  | 0, _, .tup _ => false
  | _, _, _ => true
theorem below_rel {W : Wl} {n : Nat} {cs : List (Nat × Cell)} : ∀ (f : Nat) {d : D} {v : V}, below f n d = true → RelD W d v → RelD ⟨W.μ, ⟨n, cs⟩, W.H⟩ d v := by
  intro f
  induction f with
  | zero =>
    intro d v h r
    cases d with
    | tup l => cases h
    | ref q => rw [RelD] at *; exact ⟨Nat.le_of_ble_eq_true h, r.2⟩
    | _ => rw [RelD] at *; exact r
  | succ f ih =>
    intro d v h r
    cases d with
    | tup l =>
      rw [RelD] at *
      obtain ⟨a, vs, e, h1, h2⟩ := r
      refine ⟨a, vs, e, h1, ?_⟩
      have all : ∀ (l : List D) (vs : List V), l.all (below f n) = true → RelDs W l vs → RelDs ⟨W.μ, ⟨n, cs⟩, W.H⟩ l vs := by
        intro l
        induction l with
        | nil => intro vs _ r; rw [RelDs] at *; exact r
        | cons d l ihl =>
          intro vs hh r
          rw [RelDs] at *
          obtain ⟨v, vs', e, r1, r2⟩ := r
          simp only [List.all_cons, Bool.and_eq_true] at hh
          exact ⟨v, vs', e, ih hh.1 r1, ihl vs' hh.2 r2⟩
      exact all l vs h h2
    | ref q => rw [RelD] at *; exact ⟨Nat.le_of_ble_eq_true h, r.2⟩
    | _ => rw [RelD] at *; exact r
theorem belows_rel {W : Wl} {n : Nat} {cs : List (Nat × Cell)} {f : Nat} : ∀ {l : List D} {vs : List V}, l.all (below f n) = true → RelDs W l vs → RelDs ⟨W.μ, ⟨n, cs⟩, W.H⟩ l vs
  | [], _, _, r => by rw [RelDs] at *; exact r
  | d :: l, _, hh, r => by
    rw [RelDs] at *
    obtain ⟨v, vs', e, r1, r2⟩ := r
    simp only [List.all_cons, Bool.and_eq_true] at hh
    exact ⟨v, vs', e, below_rel f hh.1 r1, belows_rel hh.2 r2⟩
def is3 : List D → Bool
  | [.int _, .int _, .int _] => true
  | _ => false
/-- of the cell c0 the cell c is kept -/
def cle (n : Nat) (c0 c : Cell) : Bool := match c with
  | .dice => match c0 with
    | .dice => true
    | .lst l => is3 l
    | _ => false
  | .lst m => match c0 with
    | .lst l => eqL (same 8) l m && l.all (below 8 n)
    | _ => false
  | .frz m => match c0 with
    | .frz l => eqL (same 8) l m && l.all (below 8 n)
    | _ => false
  | _ => false
theorem is3_eq {l : List D} (h : is3 l = true) : ∃ p q r, l = [.int p, .int q, .int r] := by
  match l, h with
  | [.int p, .int q, .int r], _ => exact ⟨p, q, r, rfl⟩
theorem rel3i {W : Wl} {p q r : Int} {vs : List V} (h : RelDs W [.int p, .int q, .int r] vs) : vs = [.int p, .int q, .int r] := rel_ints (ns := [p, q, r]) h
theorem cle_ok {K : PySem.W.Frag} {N : Names} {W : Wl} {n : Nat} {cs : List (Nat × Cell)} {a : Addr} {c0 c : Cell} (h : cle n c0 c = true) (r : RelC K N W a c0) : RelC K N ⟨W.μ, ⟨n, cs⟩, W.H⟩ a c ∧ (c.mut = true → c0.mut = true) := by
  cases c with
  | dice =>
    cases c0 with
    | dice => exact ⟨r, id⟩
    | lst l =>
      obtain ⟨p, q, s, rfl⟩ := is3_eq h
      obtain ⟨vs, h1, h2, _⟩ := r
      rw [rel3i h2] at h1
      exact ⟨⟨p, q, s, h1⟩, fun _ => rfl⟩
    | _ => cases h
  | lst m =>
    cases c0 with
    | lst l =>
      obtain ⟨h1, h2⟩ := Bool.and_eq_true_iff.mp h
      have e := eqL_eq (same_eq 8) h1
      subst e
      obtain ⟨vs, g1, g2, g3⟩ := r
      exact ⟨⟨vs, g1, belows_rel h2 g2, g3⟩, fun _ => rfl⟩
    | _ => cases h
  | frz m =>
    cases c0 with
    | frz l =>
      obtain ⟨h1, h2⟩ := Bool.and_eq_true_iff.mp h
      have e := eqL_eq (same_eq 8) h1
      subst e
      obtain ⟨vs, g1, g2, g3⟩ := r
      exact ⟨⟨vs, g1, belows_rel h2 g2, g3⟩, fun z => nomatch z⟩
    | _ => cases h
  | _ => cases h
def leSl (n : Nat) : SD → SD → Bool
  | [], [] => true
  | none :: s, _ :: t => leSl n s t
  | some d :: s, some e :: t => match same 8 e d with
    | true => match below 8 n d with
      | true => leSl n s t
      | false => false
    | false => false
  | _, _ => false
def leCs (n : Nat) (η : Hd) : List (Nat × Cell) → Bool
  | [] => true
  | p :: t => match Nat.ble (Nat.succ p.1) n with
    | true => match η.get p.1 with
      | some c0 => match cle n c0 p.2 with
        | true => leCs n η t
        | false => false
      | none => false
    | false => false
/-- the state st is kept of σ and η -/
def leS (st : SD × Hd) (σ : SD) (η : Hd) : Bool := match leSl st.2.nx st.1 σ with
  | true => match Nat.ble st.2.nx η.nx with
    | true => leCs st.2.nx η st.2.cs
    | false => false
  | false => false
theorem leSl_len {n : Nat} : ∀ {s t : SD}, leSl n s t = true → s.length = t.length
  | [], [], _ => rfl
  | none :: s, _ :: t, h => by simp only [leSl] at h; simp [leSl_len h]
  | some d :: s, some e :: t, h => by
    simp only [leSl] at h
    cases e1 : same 8 e d with
    | false => rw [e1] at h; cases h
    | true =>
      cases e2 : below 8 n d with
      | false => rw [e1, e2] at h; cases h
      | true => rw [e1, e2] at h; simp [leSl_len h]
  | [], _ :: _, h => by simp [leSl] at h
  | _ :: _, [], h => by
    rename_i x xs
    cases x <;> simp [leSl] at h
  | some d :: s, none :: t, h => by simp [leSl] at h
theorem leSl_get {n : Nat} : ∀ {s t : SD} (i : Nat) (d : D), leSl n s t = true → s[i]? = some (some d) → t[i]? = some (some d) ∧ below 8 n d = true
  | [], _, i, d, _, e => by simp at e
  | none :: s, [], i, d, h, e => by simp [leSl] at h
  | none :: s, y :: t, 0, d, h, e => by simp at e
  | none :: s, y :: t, i + 1, d, h, e => by
    simp only [leSl] at h
    exact leSl_get i d h (by simpa using e)
  | some c :: s, [], i, d, h, e => by simp [leSl] at h
  | some c :: s, none :: t, i, d, h, e => by simp [leSl] at h
  | some c :: s, some y :: t, i, d, h, e => by
    simp only [leSl] at h
    cases e1 : same 8 y c with
    | false => rw [e1] at h; cases h
    | true =>
      cases e2 : below 8 n c with
      | false => rw [e1, e2] at h; cases h
      | true =>
        rw [e1, e2] at h
        have ec := same_eq 8 _ _ e1
        subst ec
        cases i with
        | zero => simp only [List.getElem?_cons_zero, Option.some.injEq] at e; subst e; exact ⟨rfl, e2⟩
        | succ i => exact leSl_get i d h (by simpa using e)
theorem leCs_get {n : Nat} {η : Hd} : ∀ {cs : List (Nat × Cell)} (r : Nat) (c : Cell), leCs n η cs = true → look r cs = some c → r < n ∧ ∃ c0, η.get r = some c0 ∧ cle n c0 c = true
  | [], r, c, _, e => by cases e
  | p :: t, r, c, h, e => by
    simp only [leCs] at h
    cases e1 : Nat.ble (Nat.succ p.1) n with
    | false => rw [e1] at h; cases h
    | true =>
      rw [e1] at h
      simp only at h
      cases e2 : η.get p.1 with
      | none => rw [e2] at h; cases h
      | some c0 =>
        rw [e2] at h
        simp only at h
        cases e3 : cle n c0 p.2 with
        | false => rw [e3] at h; cases h
        | true =>
          rw [e3] at h
          simp only [look] at e
          cases e4 : Nat.beq p.1 r with
          | true =>
            rw [e4] at e
            cases e
            have := Nat.eq_of_beq_eq_true e4
            subst this
            exact ⟨Nat.le_of_ble_eq_true e1, c0, e2, e3⟩
          | false => rw [e4] at e; exact leCs_get r c h e
theorem leS_ok {K : PySem.W.Frag} {N : Names} {W0 W : Wl} {st : SD × Hd} {σd : SD} {σ : St} (o : W.Ok K N) (x : Ext W0 W) (s : RelS W σd σ) (h : leS st σd W.η = true) (h0 : W0.η.nx ≤ st.2.nx) :
    Ext W0 ⟨W.μ, st.2, W.H⟩ ∧ Wl.Ok K N ⟨W.μ, st.2, W.H⟩ ∧ RelS ⟨W.μ, st.2, W.H⟩ st.1 σ := by
  unfold leS at h
  cases e1 : leSl st.2.nx st.1 σd with
  | false => rw [e1] at h; cases h
  | true =>
    rw [e1] at h
    simp only at h
    cases e2 : Nat.ble st.2.nx W.η.nx with
    | false => rw [e2] at h; cases h
    | true =>
      rw [e2] at h
      have sub : ∀ r c, st.2.get r = some c → r < st.2.nx ∧ ∃ c0, W.η.get r = some c0 ∧ cle st.2.nx c0 c = true := fun r c e => leCs_get r c h e
      refine ⟨⟨h0, x.mu, x.fr, x.th, fun r c e => ?_⟩, ⟨fun r c e => (sub r c e).1, fun r c e => ?_, fun r s c d e1 e2 e => ?_, o.tab⟩, ?_⟩
      · obtain ⟨_, c0, g1, g2⟩ := sub r c e
        have gm := (cle_ok (cs := []) g2 (o.cell r c0 g1)).2
        rcases x.cs r c0 g1 with ⟨c1, k1, k2⟩ | k
        · exact .inl ⟨c1, k1, fun m => k2 (gm m)⟩
        · exact .inr k
      · obtain ⟨_, c0, g1, g2⟩ := sub r c e
        exact (cle_ok (cs := st.2.cs) g2 (o.cell r c0 g1)).1
      · obtain ⟨_, c1, g1, _⟩ := sub r c e1
        obtain ⟨_, c2, g2, _⟩ := sub s d e2
        exact o.inj r s c1 c2 g1 g2 e
      · refine ⟨(leSl_len e1).trans s.len, fun i d e => ?_⟩
        obtain ⟨q1, q2⟩ := leSl_get i d e1 e
        obtain ⟨v, r1, r2⟩ := s.get i d q1
        exact ⟨v, r1, below_rel (cs := st.2.cs) 8 q2 r2⟩
/-! ### the body of the law's loop -/
def kT (m : Nat) : KS := ⟨fun σ _ => Nat.beq σ.length m, fun _ _ => false, fun _ _ => false, fun σ _ => Nat.beq σ.length m, fun _ _ => false⟩
abbrev CK := SD → Hd → Bool
def tK (K : PySem.W.Frag) (N : Nm) (E : XK) (m : Nat) (c : CK) : TS := fun Z σ H => ∃ W0 W σd, W0.Ok K N.toNames ∧ W0.η.nx ≤ 1 ∧ Ext W0 W ∧ W.H = H ∧ W.Ok K N.toNames ∧ RelS W σd σ ∧ c σd W.η = true ∧ Sk K N E W0 (kT m) Z
def JK (X : Cx) (N : Nm) (E : XK) (m : Nat) (b : List Stmt) (c : CK) : Prop := PSs X b (tK X.K N E m c)
section
variable {X : Cx} {N : Nm} {E : XK} {m : Nat}
theorem jk_of {b : List Stmt} {c : CS} (h : JB X N E b c) : JK X N E m b (fun σ η => c σ η (kT m)) := PSs.imp h fun Z σ H q => by
  obtain ⟨W0, W, σd, o0, h0, x, rfl, o, s, h, hk⟩ := q
  exact ⟨W, σd, kT m, rfl, o, s, h, hk.mono o0 o x⟩
theorem jk_cons {st : Stmt} {rest : List Stmt} {a : CS} {c : CK} (h1 : JS X N E st a) (h2 : JK X N E m rest c) : JK X N E m (st :: rest) (fun σ η => a σ η { kT m with nx := c }) := PSs.imp (pss_cons h1 h2) fun Z σ H q => by
  obtain ⟨W0, W, σd, o0, h0, x, rfl, o, s, h, hk⟩ := q
  have hk' := hk.mono o0 o x
  exact ⟨W, σd, _, rfl, o, s, h, ⟨fun W' σd' σ' x' o' s' e' => ⟨W0, W', σd', o0, h0, x.trans o0 o x', rfl, o', s', e', hk⟩, hk'.rt, hk'.bk, hk'.ct, hk'.xc⟩⟩
/-- what is known is cut down to one of few states -/
theorem jk_cut (S : List (SD × Hd)) {rest : List Stmt} {c : CK} (h : JK X N E m rest c) (hS : (S.all fun st => Nat.ble 1 st.2.nx && c st.1 st.2) = true)   : JK X N E m rest (fun σ η => S.any fun st => leS st σ η) := PSs.imp h fun Z σ H q => by
  obtain ⟨W0, W, σd, o0, h0, x, rfl, o, s, h, hk⟩ := q
  obtain ⟨st, hm, hl⟩ := List.any_eq_true.mp h
  obtain ⟨h1, h2⟩ := Bool.and_eq_true_iff.mp (List.all_eq_true.mp hS st hm)
  obtain ⟨x', o', s'⟩ := leS_ok o x s hl (Nat.le_trans h0 (Nat.le_of_ble_eq_true h1))
  exact ⟨W0, _, st.1, o0, h0, x', rfl, o', s', h2, hk⟩
end
end DL

/-! tables of results, dice, the law's own loop -/
namespace DL
open PySem PySem.Spec L2
section
variable {K : PySem.W.Frag} {N : Names} {W W1 : Wl}
theorem put_put (r : Nat) (c d : Cell) : ∀ l : List (Nat × Cell), put r d (put r c l) = put r d l
  | [] => rfl
  | p :: t => by
    have rr : Nat.beq r r = true := Nat.beq_refl r
    cases e : Nat.beq p.1 r with
    | true => simp only [put, e, rr]
    | false => simp only [put, e, put_put r c d t]
theorem put_self (r : Nat) (c : Cell) : ∀ l : List (Nat × Cell), look r l = some c → put r c l = l
  | [], h => rfl
  | p :: t, h => by
    unfold put
    unfold look at h
    cases e : Nat.beq p.1 r with
    | true =>
      rw [e] at h
      have := Nat.eq_of_beq_eq_true e
      cases h; subst this; rfl
    | false => rw [e] at h; simp only; rw [put_self r c t h]
theorem Hd.set_set (η : Hd) (r : Nat) (c d : Cell) : (η.set r c).set r d = η.set r d := by unfold Hd.set; rw [put_put]
theorem Hd.set_self (η : Hd) (r : Nat) (c : Cell) (h : η.get r = some c) : η.set r c = η := by unfold Hd.set; rw [put_self r c _ h]
theorem Hd.new_set (η : Hd) (c d : Cell) : (η.new c).set η.nx d = η.new d := by
  unfold Hd.new Hd.set put
  have : Nat.beq η.nx η.nx = true := Nat.beq_refl _
  simp [this]
/-- a cell told otherwise -/
theorem Wl.Ok.swap (o : W.Ok K N) {r : Nat} {c0 c : Cell} (h : W.η.get r = some c0) (hc : RelC K N W (W.μ r) c) (m : c.mut = true → c0.mut = true) : Ext W ⟨W.μ, W.η.set r c, W.H⟩ ∧ Wl.Ok K N ⟨W.μ, W.η.set r c, W.H⟩ := by
  have gs : ∀ q, (W.η.set r c).get q = if q = r then some c else W.η.get q := fun q => by
    have := Hd.get_set W.η r c q
    rw [h] at this
    exact this
  have x : Ext W ⟨W.μ, W.η.set r c, W.H⟩ := by
    refine ⟨Nat.le_refl _, fun _ _ => rfl, fun _ _ e _ _ => e, fun a u e t => ⟨u, e, t⟩, fun q d e => ?_⟩
    have e' : (W.η.set r c).get q = some d := e
    rw [gs] at e'
    by_cases z : q = r
    · rw [if_pos z] at e'; cases e'; exact .inl ⟨c0, by rw [z]; exact h, m⟩
    · rw [if_neg z] at e'; exact .inl ⟨d, e', id⟩
  have t : Tx W ⟨W.μ, W.η.set r c, W.H⟩ := x.tx o
  have orig : ∀ q d, (W.η.set r c).get q = some d → ∃ d0, W.η.get q = some d0 := fun q d e => by
    rw [gs] at e
    by_cases z : q = r
    · exact ⟨c0, by rw [z]; exact h⟩
    · rw [if_neg z] at e; exact ⟨d, e⟩
  refine ⟨x, fun q d e => ?_, fun q d e => ?_, fun q s d1 d2 e1 e2 e => ?_, o.tab⟩
  · obtain ⟨d0, e0⟩ := orig q d e; exact o.lt q d0 e0
  · have e' : (W.η.set r c).get q = some d := e
    rw [gs] at e'
    by_cases z : q = r
    · rw [if_pos z] at e'; cases e'; rw [z]; exact hc.tx t (fun _ _ e => e)
    · rw [if_neg z] at e'; exact (o.cell q d e').tx t (fun _ _ e => e)
  · obtain ⟨c1, g1⟩ := orig q d1 e1
    obtain ⟨c2, g2⟩ := orig s d2 e2
    exact o.inj q s c1 c2 g1 g2 e
end
/-! ### dice -/
def l3 (p q r : Int) : List D := [.int p, .int q, .int r]
def allN : Nat → (Nat → Bool) → Bool
  | 0, _ => true
  | n + 1, f => match f n with
    | true => allN n f
    | false => false
theorem allN_get : ∀ {n : Nat} {f : Nat → Bool}, allN n f = true → ∀ i, i < n → f i = true
  | 0, _, _, i, h => absurd h (by omega)
  | n + 1, f, h, i, hi => by
    unfold allN at h
    cases e : f n with
    | false => rw [e] at h; cases h
    | true =>
      rw [e] at h
      by_cases z : i = n
      · rw [z]; exact e
      · exact allN_get h i (by omega)
def fRoll : CF := fun ds η kv kx => match ds with
  | [.ref g, .int (.ofNat (n + 1))] => match η.get g with
    | some .dice => match Nat.ble n 1000000000 with
      | true => allN (n + 1) fun v => kv (.int (Int.ofNat v)) η
      | false => false
    | _ => false
  | _ => false
def RollOk (F : CF) : Prop := ∀ (g : Nat) (m p q r : Int) (η : Hd) (kv : KV) (kx : KX), 0 < m → m ≤ 1000000001 → η.get g = some (.lst (l3 p q r)) →
  (∀ v p' q' r', 0 ≤ v → v < m → kv (.int v) (η.set g (.lst (l3 p' q' r'))) = true) → F [.ref g, .int m] η kv kx = true
def fDice : CF := fun ds η kv kx => match ds with
  | [.int _] => kv (.ref η.nx) (η.new .dice)
  | _ => false
def DiceOk (F : CF) : Prop := ∀ (c : Int) (η : Hd) (kv : KV) (kx : KX), (∀ p q r, kv (.ref η.nx) (η.new (.lst (l3 p q r))) = true) → F [.int c] η kv kx = true
noncomputable def dec (p : Prop) : Bool := @decide p (Classical.propDecidable p)
theorem dec_iff {p : Prop} : dec p = true ↔ p := by unfold dec; exact @decide_eq_true_iff p (Classical.propDecidable p)
section
variable {P : Program} {w : World} {K : PySem.W.Frag} {mg : Str → Option Value} {base : Heap} {N : Nm} {k : Nat} {f : Addr} {fd : FuncData} {ps : List Str} {F : CF}
theorem roll_inv {ds : List D} {η : Hd} {kv : KV} {kx : KX} (h : fRoll ds η kv kx = true) : ∃ g n, ds = [.ref g, .int (.ofNat (n + 1))] ∧ η.get g = some .dice ∧ n ≤ 1000000000 ∧ ∀ v, v < n + 1 → kv (.int (Int.ofNat v)) η = true := by
  unfold fRoll at h
  split at h
  · rename_i g n
    split at h
    · rename_i e
      split at h
      · rename_i e2
        exact ⟨g, n, rfl, e, Nat.le_of_ble_eq_true e2, allN_get h⟩
      · cases h
    · cases h
  · cases h
theorem jf_roll (h : JF P w K mg base k f fd ps N F) (hF : RollOk F) : JF P w K mg base k f fd ps N fRoll :=
  h.imp fun vs H Q E q => by
    obtain ⟨W, ds, kv, kx, rfl, o, r, h, hv, hx⟩ := q
    obtain ⟨g, n, rfl, hg, hn, ha⟩ := roll_inv h
    obtain ⟨p, q, s, hc⟩ := o.cell g _ hg
    have rc : RelC K N.toNames W (W.μ g) (.lst (l3 p q s)) := ⟨_, hc, .cons mkInt (.cons mkInt (.cons mkInt .nil)), by show 3 ≤ sizeLine; decide⟩
    obtain ⟨x1, o1⟩ := o.swap hg rc (fun _ => rfl)
    have g1 : (W.η.set g (.lst (l3 p q s))).get g = some (.lst (l3 p q s)) := by rw [Hd.get_set, if_pos rfl, hg]; rfl
    refine ⟨⟨W.μ, W.η.set g (.lst (l3 p q s)), W.H⟩, _, fun d η' => dec (∃ v p' q' r', d = .int v ∧ 0 ≤ v ∧ v < Int.ofNat (n + 1) ∧ η' = W.η.set g (.lst (l3 p' q' r'))), kx, rfl, o1, r.mono o x1, ?_, fun W2 d v x2 o2 r2 e => ?_, hx.mono o o1 x1⟩
    · refine hF g _ p q s _ _ _ (by show (0 : Int) < ((n + 1 : Nat) : Int); omega) (by show ((n + 1 : Nat) : Int) ≤ _; omega) g1 fun v p' q' r' h1 h2 => dec_iff.mpr ⟨v, p', q', r', rfl, h1, h2, ?_⟩
      exact Hd.set_set _ _ _ _
    · obtain ⟨v', p', q', r', rfl, h1, h2, e2⟩ := dec_iff.mp e
      have g2 : W2.η.get g = some (.lst (l3 p' q' r')) := by rw [e2, Hd.get_set, if_pos rfl, hg]; rfl
      have rd : RelC K N.toNames W2 (W2.μ g) .dice := by
        obtain ⟨us, k1, k2, _⟩ := o2.cell g _ g2
        rw [rel3i k2] at k1
        exact ⟨p', q', r', k1⟩
      obtain ⟨x3, o3⟩ := o2.swap g2 rd (fun _ => rfl)
      have eη : W2.η.set g .dice = W.η := by rw [e2, Hd.set_set, Hd.set_self _ _ _ hg]
      rw [eη] at x3 o3
      have rv : v = .int v' := by rw [RelD] at r2; exact r2
      subst rv
      refine hv ⟨W2.μ, W.η, W2.H⟩ (.int v') _ ((x1.trans o o1 x2).trans o o2 x3) o3 mkInt ?_
      have : v' = Int.ofNat v'.toNat := (Int.toNat_of_nonneg h1).symm
      rw [this]
      exact ha _ (by have h2' : v' < ((n + 1 : Nat) : Int) := h2; omega)
theorem jf_dice (h : JF P w K mg base k f fd ps N F) (hF : DiceOk F) : JF P w K mg base k f fd ps N fDice :=
  h.imp fun vs H Q E q => by
    obtain ⟨W, ds, kv, kx, rfl, o, r, h, hv, hx⟩ := q
    unfold fDice at h
    split at h
    · rename_i c
      refine ⟨W, _, fun d η' => dec (∃ p q s, d = .ref W.η.nx ∧ η' = W.η.new (.lst (l3 p q s))), kx, rfl, o, r, hF c _ _ _ fun p q s => dec_iff.mpr ⟨p, q, s, rfl, rfl⟩, fun W2 d v x2 o2 r2 e => ?_, hx⟩
      obtain ⟨p, q, s, rfl, e2⟩ := dec_iff.mp e
      have g2 : W2.η.get W.η.nx = some (.lst (l3 p q s)) := by rw [e2, Hd.get_new, if_pos rfl]
      have rd : RelC K N.toNames W2 (W2.μ W.η.nx) .dice := by
        obtain ⟨us, k1, k2, _⟩ := o2.cell _ _ g2
        rw [rel3i k2] at k1
        exact ⟨p, q, s, k1⟩
      obtain ⟨x3, o3⟩ := o2.swap g2 rd (fun _ => rfl)
      have eη : W2.η.set W.η.nx .dice = W.η.new .dice := by rw [e2, Hd.new_set]
      rw [eη] at x3 o3
      exact hv ⟨W2.μ, W.η.new .dice, W2.H⟩ _ v (x2.trans o o2 x3) o3 (r2.mono o2 x3) h
    · cases h
/-! ### a def known by a table of its results -/
/-- what a def makes: a value, an exception -/
inductive Rs where
  | val (d : D)
  | exc (c : Nat)
def TabOk (F : CF) (t : List D × Rs) : Bool := match t.1.all (nor 8) with
  | true => match t.2 with
    | .val d => match nor 8 d with
      | true => F t.1 ⟨0, []⟩ (fun d' _ => same 8 d' d) (fun _ _ => false)
      | false => false
    | .exc c => F t.1 ⟨0, []⟩ (fun _ _ => false) (fun x _ => match x.p with
      | none => Nat.beq x.c c
      | some _ => false)
  | false => false
def tabFind (ds : List D) : List (List D × Rs) → Option Rs
  | [] => none
  | t :: r => match eqL (same 8) t.1 ds with
    | true => some t.2
    | false => tabFind ds r
def fTab (T : List (List D × Rs)) : CF := fun ds η kv kx => match tabFind ds T with
  | some (.val d) => kv d η
  | some (.exc c) => kx ⟨c, none⟩ η
  | none => false
theorem tabFind_mem {ds : List D} {r : Rs} : ∀ {T : List (List D × Rs)}, tabFind ds T = some r → (ds, r) ∈ T
  | [], h => by cases h
  | t :: T, h => by
    unfold tabFind at h
    cases e : eqL (same 8) t.1 ds with
    | true =>
      rw [e] at h
      cases h
      rw [← eqL_eq (same_eq 8) e]
      exact List.mem_cons_self
    | false => rw [e] at h; exact List.mem_cons_of_mem _ (tabFind_mem h)
theorem nors_rel {W W' : Wl} (ht : ∀ a vs, W.H a = some (.tup vs) → W'.H a = some (.tup vs)) : ∀ {l : List D} {vs : List V}, l.all (nor 8) = true → RelDs W l vs → RelDs W' l vs
  | [], _, _, r => by rw [RelDs] at *; exact r
  | d :: l, _, hh, r => by
    rw [RelDs] at *
    obtain ⟨v, vs', e, r1, r2⟩ := r
    simp only [List.all_cons, Bool.and_eq_true] at hh
    exact ⟨v, vs', e, nor_rel 8 ht hh.1 r1, nors_rel ht hh.2 r2⟩
theorem jf_tab {T : List (List D × Rs)} (h : JF P w K mg base k f fd ps N F) (hT : T.all (TabOk F) = true) : JF P w K mg base k f fd ps N (fTab T) :=
  h.imp fun vs H Q E q => by
    obtain ⟨W, ds, kv, kx, rfl, o, r, h, hv, hx⟩ := q
    have o0 : Wl.Ok K N.toNames ⟨W.μ, ⟨0, []⟩, W.H⟩ := ⟨(fun _ _ e => nomatch e), (fun _ _ e => nomatch e), (fun _ _ _ _ e => nomatch e), o.tab⟩
    have back : ∀ W', Ext ⟨W.μ, ⟨0, []⟩, W.H⟩ W' → W'.Ok K N.toNames → Ext W ⟨W.μ, W.η, W'.H⟩ ∧ Wl.Ok K N.toNames ⟨W.μ, W.η, W'.H⟩ := fun W' x o' => by
      have keep : ∀ a u, noT u → W.H a = some u → W'.H a = some u := fun a u t e => x.fr a u e t (fun _ _ e => nomatch e)
      have xx : Ext W ⟨W.μ, W.η, W'.H⟩ := ⟨Nat.le_refl _, fun _ _ => rfl, fun a u e t _ => keep a u t e, x.th, fun r c e => .inl ⟨c, e, id⟩⟩
      exact ⟨xx, o.lt, fun r c e => (o.cell r c e).mono o xx (fun ob t => keep _ ob t), o.inj, o'.tab⟩
    unfold fTab at h
    cases e : tabFind ds T with
    | none => rw [e] at h; cases h
    | some rs =>
      have hm := List.all_eq_true.mp hT _ (tabFind_mem e)
      unfold TabOk at hm
      dsimp only at hm
      cases e1 : ds.all (nor 8) with
      | false => rw [e1] at hm; cases hm
      | true =>
        rw [e1] at hm
        have r0 : RelDs ⟨W.μ, ⟨0, []⟩, W.H⟩ ds vs := nors_rel (W := W) (W' := ⟨W.μ, ⟨0, []⟩, W.H⟩) (fun _ _ e => e) e1 r
        rw [e] at h
        cases rs with
        | val d =>
          dsimp only at hm h
          cases e2 : nor 8 d with
          | false => rw [e2] at hm; cases hm
          | true =>
            rw [e2] at hm
            refine ⟨⟨W.μ, ⟨0, []⟩, W.H⟩, ds, _, _, rfl, o0, r0, hm, fun W' d' v x o' r' e' => ?_, fun W' xx cls dd x o' r' e' => by cases e'⟩
            have ed := same_eq 8 _ _ e'
            subst ed
            obtain ⟨xb, ob⟩ := back W' x o'
            exact hv ⟨W.μ, W.η, W'.H⟩ d' v xb ob (nor_rel (W := W') (W' := ⟨W.μ, W.η, W'.H⟩) 8 (fun _ _ e => e) e2 r') h
        | exc c =>
          dsimp only at hm h
          refine ⟨⟨W.μ, ⟨0, []⟩, W.H⟩, ds, _, _, rfl, o0, r0, hm, fun W' d' v x o' r' e' => by (cases e'), fun W' xx cls dd x o' r' e' => ?_⟩
          obtain ⟨xc, xp⟩ := xx
          cases xp with
          | some d => cases e'
          | none =>
            have ec : xc = c := Nat.eq_of_beq_eq_true e'
            subst ec
            obtain ⟨xb, ob⟩ := back W' x o'
            exact hx ⟨W.μ, W.η, W'.H⟩ ⟨xc, none⟩ cls dd xb ob r' h
end
end DL

/-! the law's own loop over its dice -/
namespace DL
open PySem PySem.Spec L2
def delC (g : Nat) : List (Nat × Cell) → List (Nat × Cell)
  | [] => []
  | p :: t => match Nat.beq p.1 g with
    | true => delC g t
    | false => p :: delC g t
def Hd.del (η : Hd) (g : Nat) : Hd := ⟨η.nx, delC g η.cs⟩
theorem look_del (g q : Nat) : ∀ l : List (Nat × Cell), look q (delC g l) = if q = g then none else look q l
  | [] => by simp [delC, look]
  | p :: t => by
    have ih := look_del g q t
    unfold delC
    cases e : Nat.beq p.1 g with
    | true =>
      have e' := Nat.eq_of_beq_eq_true e
      simp only [ih, look]
      by_cases h : q = g
      · simp [h]
      · have : Nat.beq p.1 q = false := by
          cases z : Nat.beq p.1 q with
          | false => rfl
          | true => exact absurd ((Nat.eq_of_beq_eq_true z).symm.trans e') h
        simp [h, this]
    | false =>
      simp only [look, ih]
      by_cases h : q = g
      · subst h; simp [e]
      · simp [h]
theorem Hd.get_del (η : Hd) (g q : Nat) : (η.del g).get q = if q = g then none else η.get q := look_del g q η.cs
def dicesL : List D → Hd → Bool
  | [], _ => true
  | .ref g :: t, η => match η.get g with
    | some .dice => dicesL t (η.del g)
    | _ => false
  | _ :: _, _ => false
theorem dicesL_cons {d : D} {t : List D} {η : Hd} (h : dicesL (d :: t) η = true) : ∃ g, d = .ref g ∧ η.get g = some .dice ∧ dicesL t (η.del g) = true := by
  cases d with
  | ref g =>
    simp only [dicesL] at h
    cases e : η.get g with
    | none => rw [e] at h; cases h
    | some c =>
      cases c with
      | dice => rw [e] at h; exact ⟨g, rfl, e, h⟩
      | _ => rw [e] at h; cases h
  | _ => cases h
theorem Wl.Ok.aside {K : PySem.W.Frag} {N : Names} {W W5 : Wl} (o : W.Ok K N) {g : Nat} (hg : W.η.get g = some .dice) (x : Ext ⟨fun _ => W.μ g, ⟨1, [(0, .dice)]⟩, W.H⟩ W5) (o5 : W5.Ok K N) : Ext W ⟨W.μ, W.η.del g, W5.H⟩ ∧ Wl.Ok K N ⟨W.μ, W.η.del g, W5.H⟩ := by
  have keep : ∀ a u, noT u → W.H a = some u → a ≠ W.μ g → W5.H a = some u := fun a u t e ne => x.fr a u e t (fun _ _ _ _ z => ne z.symm)
  have xx : Ext W ⟨W.μ, W.η.del g, W5.H⟩ := by
    refine ⟨Nat.le_refl _, fun _ _ => rfl, fun a u e t hn => keep a u t e (Ne.symm (hn g _ hg rfl)), x.th, fun q c e => ?_⟩
    have e' : (W.η.del g).get q = some c := e
    rw [Hd.get_del] at e'
    by_cases z : q = g
    · rw [if_pos z] at e'; cases e'
    · rw [if_neg z] at e'; exact .inl ⟨c, e', id⟩
  have orig : ∀ q c, (W.η.del g).get q = some c → q ≠ g ∧ W.η.get q = some c := fun q c e => by
    rw [Hd.get_del] at e
    by_cases z : q = g
    · rw [if_pos z] at e; cases e
    · rw [if_neg z] at e; exact ⟨z, e⟩
  refine ⟨xx, fun q c e => o.lt q c (orig q c e).2, fun q c e => ?_, fun q s c d e1 e2 e => o.inj q s c d (orig q c e1).2 (orig s d e2).2 e, o5.tab⟩
  obtain ⟨z, e'⟩ := orig q c e
  exact (o.cell q c e').mono o xx (fun ob t h => keep _ ob t h (o.apart hg e' z))
theorem RelS.blank {W : Wl} {σ : St} {m : Nat} (h : σ.length = m) : RelS W (List.replicate m none) σ := by
  refine ⟨by rw [List.length_replicate]; exact h.symm, fun i d e => ?_⟩
  have := List.mem_of_getElem? e
  rw [List.mem_replicate] at this
  cases this.2
section
variable {X : Cx} {N : Nm} {E : XK}
/-- what the rounds give -/
def RndQ (K : PySem.W.Frag) (N : Nm) (H : Hp) (Q : VK) : Prop := ∀ W' r l v, Ext ⟨fun _ => 0, ⟨0, []⟩, H⟩ W' → W'.Ok K N.toNames → W'.η.get r = some (.lst l) → dicesL l (frzAt r l W'.η) = true → RelD W' (.ref r) v → Q v W'.H
def spRnd (K : PySem.W.Frag) (N : Nm) : Sp := fun vs H Q _ => ∃ (a : Addr) (ns : List Int) (m : Nat), vs = [.ref a, .int (Int.ofNat m)] ∧ m ≤ 4 ∧ SqL K H a (ns.map V.int) ∧ LamX.Tabs N.tabs H ∧ RndQ K N H Q
def tLaw (K : PySem.W.Frag) (N : Nm) (m : Nat) : TS := fun Z σ H => ∃ (a : Addr) (ns : List Int), σ[0]? = some (some (.ref a)) ∧ σ.length = m ∧ SqL K H a (ns.map V.int) ∧ LamX.Tabs N.tabs H ∧ ∀ H', Z.rt (.bl true) H'
/-- for dice in _law_rounds(script, n): body; return True -/
theorem law_loop {k : Nat} {f : Addr} {fd : FuncData} {ps : List Str} {i m n : Nat} {x y : Str} {e0 e1 : Expr} {body : List Stmt} {c : CK} {p p' p2 pos pos2 : Pos} {jj} {pb : Pos}
    (G : FnOk X.prog X.w X.K X.mg X.base (L2.CX X.prog X.w) k f fd ps (spRnd X.K N)) (hr : Room k X.A) (hgl : Gl X x) (hm : X.mg x = some (.ref f)) (hk : PySem.W.keepIn X.K (.ref f) = true) (hb : Binds X.K fd ps []) (hx : Passes (L2.CX X.prog X.w) X E)
    (h0 : PE X e0 (tVar 0)) (h1 : PE X e1 (tC (.int (Int.ofNat n)))) (hn : n ≤ 4)
    (hp : PassesOwn (model X.prog X.w) X.A X.env X.xe) (hc : X.calm = true) (hg : JG X N E (.Name y p') (gNm i)) (hbody : JK X N E m body c) (hgen : c ((List.replicate m none).set i (some (.ref 0))) ⟨1, [(0, .dice)]⟩ = true)
    (hs : ∀ x', foldedSetIterable (.Call (.Name x p) [e0, e1] [] p2) X.env x' = pure x' := by intro _; rfl)
    (hdb : (x == ("__debug__" : Str)) = false := by decide) (hs1 : starEach (e0 :: [e1]) X.env = (false, eval e0 X.env) :: starEach [e1] X.env := by rfl) (hs2 : starEach (e1 :: []) X.env = (false, eval e1 X.env) :: starEach [] X.env := by rfl)
    (hpl : (backTo p2 (starEach [e1] X.env)).any (·.1) = false := by rfl) :
    PSs X [.For (.Name y p') (.Call (.Name x p) [e0, e1] [] p2) body [] pos, .Return (some (.Constant (.bool true) jj pb)) pos2] (tLaw X.K N m) := by
  refine PSs.imp (pss_cons (ps_for hp hc (pi_seq (pe_call G hr hgl hm hk hb .nil hx (pa_cons h0 (pa_cons h1 pa_nil hs2) hs1) hdb hs1 hpl)) hg hbody hs) (pss_one (ps_ret pe_bl))) fun Z σ H q => ?_
  obtain ⟨a, ns, e1, em, e2, e3, e4⟩ := q
  refine ⟨.ref a, e1, ?_⟩
  refine ⟨a, ns, n, rfl, hn, e2, e3, fun W1 r l v x1 o1 hr hd rv => ?_⟩
  have ev := relRef rv
  subst ev
  obtain ⟨vs, g1, g2, g3⟩ := o1.cell r _ hr
  refine .inl ⟨_, rfl, ⟨vs, SqL.of g1⟩, ?_⟩
  have fz : FzOk W1 ⟨l, some (r, l)⟩ := fun r' l' e => by cases e; exact hr
  obtain ⟨xf, of⟩ := Its.froze o1 fz
  have gq : (frzAt r l W1.η).get r = some (.frz l) := by
    unfold frzAt
    rw [Hd.get_set, if_pos rfl, hr]; rfl
  have wk : WalkD X.K N (Its.w ⟨l, some (r, l)⟩ W1) l (Itl X.K (W1.μ r)) := walkD_list (fun W1 x => x.fz r l _ gq g1) (g2.mono o1 xf)
  refine ⟨fun i m' σ2 H2 => m' = l.length - i ∧ i ≤ l.length ∧ σ2.length = m ∧ ∃ W2, W2.H = H2 ∧ Ext (Its.w ⟨l, some (r, l)⟩ W1) W2 ∧ W2.Ok X.K N.toNames ∧ dicesL (l.drop i) W2.η = true,
    ⟨l.length, by omega, Nat.zero_le _, em, Its.w ⟨l, some (r, l)⟩ W1, rfl, Ext.refl _, of, hd⟩, ?_⟩
  rintro i' m' σ2 H2 ⟨rfl, hi, hσ, W2, rfl, x2, o2, h2⟩
  by_cases hlt : i' < l.length
  · refine .inr ⟨wk.go W2 i' (x2.sty of) o2 hlt, fun σ3 H3 => σ3.length = m ∧ ∃ W3, W3.H = H3 ∧ Ext (Its.w ⟨l, some (r, l)⟩ W1) W3 ∧ W3.Ok X.K N.toNames ∧ dicesL (l.drop (i' + 1)) W3.η = true, fun σ3 H3 p3 => ⟨l.length - (i' + 1), by omega, rfl, hlt, p3⟩, fun yv H3 hy => ?_⟩
    obtain ⟨W3, d, e3', x3, o3, eH, eη, r3⟩ := wk.yld W2 i' yv H3 (x2.sty of) o2 hlt hy
    subst eH
    have ed : l.drop i' = d :: l.drop (i' + 1) := by
      rw [List.drop_eq_getElem_cons hlt]
      have : l[i'] = d := by
        have := List.getElem?_eq_getElem hlt
        rw [this] at e3'; exact Option.some.inj e3'
      rw [this]
    rw [ed, ← eη] at h2
    obtain ⟨g, rfl, hgd, h2⟩ := dicesL_cons h2
    have x03 := x2.trans of o2 x3
    have o' : Wl.Ok X.K N.toNames ⟨fun _ => W3.μ g, ⟨1, [(0, .dice)]⟩, W3.H⟩ := by
      have one : ∀ q (cc : Cell), (Hd.mk 1 [(0, .dice)]).get q = some cc → q = 0 ∧ cc = .dice := fun q cc e => by
        unfold Hd.get look at e
        cases ez : Nat.beq 0 q with
        | true => simp only [ez] at e; cases e; exact ⟨(Nat.eq_of_beq_eq_true ez).symm, rfl⟩
        | false => simp only [ez] at e; cases e
      refine ⟨fun q cc e => ?_, fun q cc e => ?_, fun q s cc d e1 e2 e => ?_, o3.tab⟩
      · rw [(one q cc e).1]; exact Nat.zero_lt_one
      · obtain ⟨rfl, rfl⟩ := one q cc e
        obtain ⟨a1, a2, a3, h⟩ := o3.cell g _ hgd
        exact ⟨a1, a2, a3, h⟩
      · rw [(one q cc e1).1, (one s d e2).1]
    have rv' : RelD ⟨fun _ => W3.μ g, ⟨1, [(0, .dice)]⟩, W3.H⟩ (.ref 0) yv := by
      have e9 := relRef r3
      rw [RelD]; exact ⟨Nat.zero_lt_one, e9⟩
    refine ⟨⟨fun _ => W3.μ g, ⟨1, [(0, .dice)]⟩, W3.H⟩, .ref 0, List.replicate m none, c, fun _ _ => false, rfl, o', rv', RelS.blank hσ, hgen, fun W4 σd4 σ4 x4 o4 s4 h4 => ?_, fun _ _ _ _ _ _ _ e => by cases e⟩
    have nxt : ∀ W5 σd5 σ5, Ext ⟨fun _ => W3.μ g, ⟨1, [(0, .dice)]⟩, W3.H⟩ W5 → W5.Ok X.K N.toNames → RelS W5 σd5 σ5 → Nat.beq σd5.length m = true → (σ5.length = m ∧ ∃ W3, W3.H = W5.H ∧ Ext (Its.w ⟨l, some (r, l)⟩ W1) W3 ∧ W3.Ok X.K N.toNames ∧ dicesL (l.drop (i' + 1)) W3.η = true) := fun W5 σd5 σ5 x5 o5 s5 hl5 => by
      obtain ⟨xa, oa⟩ := o3.aside hgd x5 o5
      exact ⟨s5.len.symm.trans (Nat.eq_of_beq_eq_true hl5), ⟨W3.μ, W3.η.del g, W5.H⟩, rfl, x03.trans of o3 xa, oa, h2⟩
    exact ⟨_, W4, σd4, o', Nat.le_refl 1, x4, rfl, o4, s4, h4, ⟨nxt, (fun _ _ _ _ _ _ e => by cases e), (fun _ _ _ _ _ _ e => by cases e), nxt, (fun _ _ _ _ _ _ _ e => by cases e)⟩⟩
  · have e : i' = l.length := by omega
    subst e
    exact .inl ⟨wk.stop W2 (x2.sty of) o2, e4 _⟩
end
end DL

/-! the rounds -/
namespace DL
open PySem PySem.Spec L2
/-- what is wanted of the rounds' end -/
def kR : KS := ⟨fun _ _ => false, fun d η => match d with
  | .ref r => match η.get r with
    | some (.lst l) => dicesL l (frzAt r l η)
    | _ => false
  | _ => false, fun _ _ => false, fun _ _ => false, fun _ _ => false⟩
def rndσ (m : Nat) : SD := none :: none :: some (.ref 0) :: List.replicate (m - 3) none
def RndT (m : Nat) (c : CS) : Prop := ∀ l : List Int, l.length ≤ 4 → c (rndσ m) ⟨1, [(0, .lst (l.map D.int))]⟩ kR = true
theorem cut_ints (ns : List Int) (m : Nat) : ∃ l : List Int, cutV (ns.map V.int) none (some (Int.ofNat m)) = l.map V.int ∧ l.length ≤ m := by
  unfold cutV
  rw [← List.map_drop, ← List.map_take]
  refine ⟨_, rfl, ?_⟩
  rw [List.length_take]
  have h1 : HT.sIx (ns.map V.int).length (ns.map V.int).length (some (Int.ofNat m)) = min m (ns.map V.int).length := HT.sIx_nat _ _ m
  rw [h1]
  omega
def tRnd (K : PySem.W.Frag) (N : Nm) (n : Nat) : TS := fun Z σ H => ∃ (a : Addr) (ns : List Int) (m : Nat) (t : St), σ = some (.ref a) :: some (.int (Int.ofNat m)) :: none :: t ∧ t.length = n - 3 ∧ m ≤ 4 ∧ SqL K H a (ns.map V.int) ∧ LamX.Tabs N.tabs H ∧ RndQ K N H Z.rt
section
variable {X : Cx} {N : Nm} {E : XK}
theorem rnd_body {n : Nat} {y : Str} {e0 e1 : Expr} {rest : List Stmt} {c : CS} {py p2 p3 p4 : Pos} (hN : X.N.Nodup) (hi : X.N[2]? = some y) (hl : L2.Loc X.env.scope y) (h0 : PE X e0 (tVar 0)) (h1 : PE X e1 (tVar 1)) (hr : JB X N E rest c) (hT : RndT n c)
    (hsw : swapsWith (.Subscript e0 (.Slice none (some e1) none p2) p3) (some (.Name y py)) p4.line X.env = pure false := by rfl) (hf : X.fn y = true ∨ X.env.scope.names.lookup y = some .local := by first | exact .inr rfl | assumption) :
    PSs X (.Assign [.Name y py] (.Subscript e0 (.Slice none (some e1) none p2) p3) p4 :: rest) (tRnd X.K N n) := by
  refine PSs.imp (pss_cons (ps_set hN hi hl (pe_slice sl_list h0 po_none (po_some h1)) hsw hf) hr) fun Z σ H q => ?_
  obtain ⟨a, ns, m, t, rfl, ht, hm, hS, hTb, hQ⟩ := q
  obtain ⟨l, el, ll⟩ := cut_ints ns m
  refine ⟨.ref a, rfl, .int (Int.ofNat m), rfl, Int.ofNat m, rfl, a, ns.map V.int, rfl, hS, fun p hp => ?_⟩
  rw [el]
  have o0 : Wl.Ok X.K N.toNames ⟨fun _ => 0, ⟨0, []⟩, H⟩ := ⟨(fun _ _ e => nomatch e), (fun _ _ e => nomatch e), (fun _ _ _ _ e => nomatch e), hTb⟩
  have hz : (l.map D.int).length ≤ sizeLine := by rw [List.length_map]; exact Nat.le_trans ll (Nat.le_trans hm (by decide))
  refine new_lst (Q := fun v H' => tS X.K N E c Z (some (.ref a) :: some (.int (Int.ofNat m)) :: some v :: t) H') o0 (fun W1 v x1 o1 e1 r1 => ?_) hp (ints_rel (ns := l)) hz
  refine ⟨W1, rndσ n, kR, rfl, o1, ?_, ?_, ⟨(fun _ _ _ _ _ _ e => by cases e), fun W2 d v2 x2 o2 r2 e2 => ?_, (fun _ _ _ _ _ _ e => by cases e), (fun _ _ _ _ _ _ e => by cases e), (fun _ _ _ _ _ _ _ e => by cases e)⟩⟩
  · refine ⟨by simp [rndσ, ht], fun i d e => ?_⟩
    match i with
    | 0 => simp [rndσ] at e
    | 1 => simp [rndσ] at e
    | 2 =>
      simp only [rndσ, List.getElem?_cons_succ, List.getElem?_cons_zero, Option.some.injEq] at e
      subst e
      exact ⟨v, rfl, r1⟩
    | i + 3 =>
      simp only [rndσ, List.getElem?_cons_succ] at e
      have := List.mem_of_getElem? e
      rw [List.mem_replicate] at this
      cases this.2
  · rw [e1]; exact hT l (Nat.le_trans ll hm)
  · unfold kR at e2
    dsimp only at e2
    cases d with
    | ref r =>
      dsimp only at e2
      cases eg : W2.η.get r with
      | none => rw [eg] at e2; cases e2
      | some cc =>
        cases cc with
        | lst l2 => rw [eg] at e2; exact hQ W2 r l2 v2 (x1.trans o0 o1 x2) o2 eg e2 r2
        | _ => rw [eg] at e2; cases e2
    | _ => cases e2
end
end DL

/-! the dice's own defs -/
namespace DL
open PySem PySem.Spec L2
def b_roll : CS := (sSeq (sIf (ctOr (cTst (cOp fEq (cOp fIx (cVar 0) (cC (.int 2))) (cC (.int 2)))) (ctAnd (cTst (cOp fEq (cOp fIx (cVar 0) (cC (.int 2))) (cC (.int 1)))) (cTst (cOp (fB2 igt) (cOp fIx (cVar 0) (cC (.int 0))) (cC (.int 0)))))) (sSeq (sAsg (cOp fMod (cFn (f1 gInt) (cCons (cOp fIx (cVar 0) (cC (.int 0))) cNil)) (cVar 1)) (gNm 2)) (sSeq (sAsg (cOp fDiv (cOp fIx (cVar 0) (cC (.int 0))) (cVar 1)) (gSb (cVar 0) (cC (.int 0)))) (sRet (cVar 2)))) sNil) (sSeq (sAsg (cC (.int 0)) (gSb (cVar 0) (cC (.int 2)))) (sSeq (sAsg (cOp fMod (cFn (f1 gInt) (cCons (cOp fAdd (cOp fAdd (cOp fMul (cOp fIx (cVar 0) (cC (.int 0))) (cC (.int 48271))) (cOp fMul (cOp fIx (cVar 0) (cC (.int 1))) (cC (.int 69621)))) (cC (.int 11))) cNil)) (cC (.int 2147483647))) (gSb (cVar 0) (cC (.int 0)))) (sSeq (sAsg (cOp fAdd (cOp fIx (cVar 0) (cC (.int 1))) (cC (.int 1))) (gSb (cVar 0) (cC (.int 1)))) (sRet (cOp fMod (cFn (f1 gInt) (cCons (cOp fAdd (cOp fDiv (cOp fIx (cVar 0) (cC (.int 0))) (cC (.int 7))) (cOp fIx (cVar 0) (cC (.int 0)))) cNil)) (cVar 1)))))))
def b_dice : CS := (sSeq (sIf (cTst (cChain (fB2 ilt) (fB2 ilt) (cOp fSub (cC (.int 0)) (cC (.int 10))) (cVar 0) (cC (.int 10)))) (sRet (cLst (cCons (cFn (f1 gAbs) (cCons (cVar 0) cNil)) (cCons (cC (.int 0)) (cCons (cC (.int 2)) cNil))))) sNil) (sRet (cLst (cCons (cVar 0) (cCons (cOp fAdd (cC (.int 1)) (cOp fMod (cFn (f1 gInt) (cCons (cVar 0) cNil)) (cC (.int 1009)))) (cCons (cFn (f1 gInt) (cCons (cOp (fB2 ige) (cVar 0) (cOp fPow (cC (.int 10)) (cC (.int 18)))) cNil)) cNil))))))
def b_rnd : CS := (sSeq (sIf (cTst (cOp fEq (cVar 2) (cLst cNil))) (sAsg (cLst (cCons (cC (.int 0)) cNil)) (gNm 2)) sNil) (sRet (cLc (ciSeq (cVar 2)) (gNm 3) ctYes (cCall fDice (cCons (cVar 3) cNil)) [3])))
theorem rnd_ok : RndT 4 b_rnd := by
  intro l hl
  match l, hl with
  | [], _ => rfl
  | [a], _ => rfl
  | [a, b], _ => rfl
  | [a, b, c], _ => rfl
  | [a, b, c, d], _ => rfl
  | _ :: _ :: _ :: _ :: _ :: _, h => exact absurd h (by simp)
theorem tst_bl {b : Bool} {σ : SD} {η : Hd} {k : Bool → Hd → Bool} {kx : KX} {c : CE} (h : ∀ kv kx, c σ η kv kx = kv (.bl b) η) : cTst c σ η k kx = k b η := by
  unfold cTst
  rw [h]
theorem dice_ok : DiceOk (cDef 1 1 b_dice) := by
  intro c η kv kx h
  show b_dice [some (.int c)] η ⟨fun _ η1 => kv .non η1, kv, fun _ _ => false, fun _ _ => false, kx⟩ = true
  have pw : ∀ η' : Hd, fPow (.int 10) (.int 18) η' = some (.int (ipow 10 18), η') := fun _ => rfl
  have low : ∀ b : Bool, ige c (ipow 10 18) = b → b_dice [some (.int c)] η ⟨fun _ η1 => kv .non η1, kv, fun _ _ => false, fun _ _ => false, kx⟩ = true := fun b eb => by
    cases e1 : ilt (isub 0 10) c with
    | true =>
      cases e2 : ilt c 10 with
      | true =>
        simp [b_dice, sSeq, sIf, cTst, cChain, cOp, cC, cVar, fSub, fI2, fB2, e1, e2, sRet, cLst, cCons, cNil, cFn, f1, gAbs, line]
        exact h _ _ _
      | false =>
        cases b <;>
        · simp [b_dice, sSeq, sIf, sNil, cTst, cChain, cOp, cC, cVar, fSub, fI2, fB2, e1, e2, sRet, cLst, cCons, cNil, cFn, f1, gInt, line, fAdd, fOr, fMod, fI2c, modOk, pw, eb]
          exact h _ _ _
    | false =>
      cases b <;>
      · simp [b_dice, sSeq, sIf, sNil, cTst, cChain, cOp, cC, cVar, fSub, fI2, fB2, e1, sRet, cLst, cCons, cNil, cFn, f1, gInt, line, fAdd, fOr, fMod, fI2c, modOk, pw, eb]
        exact h _ _ _
  exact low _ rfl
theorem roll_ok : RollOk (cDef 2 3 b_roll) := by
  intro g m p q r η kv kx h0 h1 hg hk
  obtain ⟨n, rfl⟩ : ∃ n : Nat, m = Int.ofNat (n + 1) := ⟨m.toNat - 1, by show m = ((m.toNat - 1 + 1 : Nat) : Int); omega⟩
  have hn : n ≤ 1000000000 := by have : ((n + 1 : Nat) : Int) ≤ 1000000001 := h1; omega
  have gs : ∀ (η' : Hd) (l l' : List D), η'.get g = some (.lst l) → (η'.set g (.lst l')).get g = some (.lst l') := fun η' l l' e => by rw [Hd.get_set, if_pos rfl, e]; rfl
  show b_roll [some (.ref g), some (.int (Int.ofNat (n + 1))), none] η ⟨fun _ η1 => kv .non η1, kv, fun _ _ => false, fun _ _ => false, kx⟩ = true
  have ix : ∀ (η' : Hd) (a b c : Int), η'.get g = some (.lst (l3 a b c)) → fIx (.ref g) (.int 0) η' = some (.int a, η') ∧ fIx (.ref g) (.int 1) η' = some (.int b, η') ∧ fIx (.ref g) (.int 2) η' = some (.int c, η') := fun η' a b c e => by
    refine ⟨?_, ?_, ?_⟩ <;> (simp only [fIx, e]; rfl)
  have st : ∀ (η' : Hd) (a b c v : Int), η'.get g = some (.lst (l3 a b c)) → fSet (.ref g) (.int 0) (.int v) η' = some (η'.set g (.lst (l3 v b c))) ∧ fSet (.ref g) (.int 1) (.int v) η' = some (η'.set g (.lst (l3 a v c))) ∧ fSet (.ref g) (.int 2) (.int v) η' = some (η'.set g (.lst (l3 a b v))) := fun η' a b c v e => by
    refine ⟨?_, ?_, ?_⟩ <;> (simp only [fSet, e]; rfl)
  have eqi : ∀ (a b : Int) (η' : Hd), fEq (.int a) (.int b) η' = some (.bl (ieq a b), η') := fun a b η' => rfl
  have dv : divOk 0 (Int.ofNat (n + 1)) = true := by
    show Nat.ble n 1000000000 = true
    exact Nat.ble_eq_true_of_le hn
  have dv' : ∀ a, divOk a (Int.ofNat (n + 1)) = true := fun a => dv
  have md' : ∀ a, modOk a (Int.ofNat (n + 1)) = true := fun a => rfl
  have lo : ∀ a : Int, 0 ≤ imod a (Int.ofNat (n + 1)) ∧ imod a (Int.ofNat (n + 1)) < Int.ofNat (n + 1) := fun a => ⟨Int.emod_nonneg _ (by show ((n + 1 : Nat) : Int) ≠ 0; omega), Int.emod_lt_of_pos _ (by show (0 : Int) < ((n + 1 : Nat) : Int); omega)⟩
  have i0 := (ix η p q r hg).1
  have i2 := (ix η p q r hg).2.2
  have mul : ∀ (a : Int) (η' : Hd), fMul (.int a) (.int 48271) η' = some (.int (imul a 48271), η') ∧ fMul (.int a) (.int 69621) η' = some (.int (imul a 69621), η') := fun a η' => by
    have : mulOk a 48271 = true ∧ mulOk a 69621 = true := by unfold mulOk; exact ⟨by rw [Bool.or_eq_true]; exact .inr rfl, by rw [Bool.or_eq_true]; exact .inr rfl⟩
    simp [fMul, fOr, fI2c, this.1, this.2]
  have m1 := fun a η' => (mul a η').1
  have m2 := fun a η' => (mul a η').2
  have md1 : ∀ (a : Int) (η' : Hd), fMod (.int a) (.int 2147483647) η' = some (.int (imod a 2147483647), η') := fun _ _ => rfl
  have md2 : ∀ (a : Int) (η' : Hd), fMod (.int a) (.int (Int.ofNat (n + 1))) η' = some (.int (imod a (Int.ofNat (n + 1))), η') := fun _ _ => rfl
  have dv1 : ∀ (a : Int) (η' : Hd), fDiv (.int a) (.int (Int.ofNat (n + 1))) η' = some (.int (idiv a (Int.ofNat (n + 1))), η') := fun a η' => by simp only [fDiv, fI2c, dv']
  have dv7 : ∀ (a : Int) (η' : Hd), fDiv (.int a) (.int 7) η' = some (.int (idiv a 7), η') := fun _ _ => rfl
  have ad : ∀ (a b : Int) (η' : Hd), fAdd (.int a) (.int b) η' = some (.int (iadd a b), η') := fun _ _ _ => rfl
  have gt : ∀ (a b : Int) (η' : Hd), fB2 igt (.int a) (.int b) η' = some (.bl (igt a b), η') := fun _ _ _ => rfl
  have s0 := fun v => (st η p q r v hg).1
  have s2 := (st η p q r 0 hg).2.2
  have hS := fun a b c => gs η _ (l3 a b c) hg
  have j0 := fun a b c => (ix _ a b c (hS a b c)).1
  have j1 := fun a b c => (ix _ a b c (hS a b c)).2.1
  have t0 : ∀ a b c v, fSet (.ref g) (.int 0) (.int v) (η.set g (.lst (l3 a b c))) = some (η.set g (.lst (l3 v b c))) := fun a b c v => by rw [(st _ a b c v (hS a b c)).1, Hd.set_set]
  have t1 : ∀ a b c v, fSet (.ref g) (.int 1) (.int v) (η.set g (.lst (l3 a b c))) = some (η.set g (.lst (l3 a v c))) := fun a b c v => by rw [(st _ a b c v (hS a b c)).2.1, Hd.set_set]
  have fin : ∀ a : Int, ∀ l : List D, (∃ x y z, l = l3 x y z) → kv (.int (imod a (Int.ofNat (n + 1)))) (η.set g (.lst l)) = true := fun a l ⟨x, y, z, e⟩ => by
    rw [e]; exact hk _ _ _ _ (lo a).1 (lo a).2
  have three : ∀ (x y z : Int), ∃ x' y' z', l3 x y z = l3 x' y' z' := fun x y z => ⟨x, y, z, rfl⟩
  generalize hM : Int.ofNat (n + 1) = M at *
  have long : (match ieq r 2 with
      | true => false
      | false => match ieq r 1 with
        | true => !(igt p 0)
        | false => true) = true → b_roll [some (.ref g), some (.int M), none] η ⟨fun _ η1 => kv .non η1, kv, fun _ _ => false, fun _ _ => false, kx⟩ = true := fun hh => by
    cases e2 : ieq r 2 with
    | true => rw [e2] at hh; cases hh
    | false =>
      rw [e2] at hh
      cases e1 : ieq r 1 with
      | false =>
        simp [b_roll, sSeq, sIf, sNil, ctOr, ctAnd, cTst, cOp, cC, cVar, sRet, sAsg, gNm, gSb, cCons, cNil, cFn, f1, gInt, i0, i2, eqi, e1, e2, s2, j0, j1, t0, t1, m1, m2, ad, md1, dv7, md2, fin, three]
      | true =>
        rw [e1] at hh
        have e0 : igt p 0 = false := by simpa using hh
        simp [b_roll, sSeq, sIf, sNil, ctOr, ctAnd, cTst, cOp, cC, cVar, sRet, sAsg, gNm, gSb, cCons, cNil, cFn, f1, gInt, i0, i2, eqi, e0, e1, e2, gt, s2, j0, j1, t0, t1, m1, m2, ad, md1, dv7, md2, fin, three]
  cases e2 : ieq r 2 with
  | true => simp [b_roll, sSeq, sIf, sNil, ctOr, ctAnd, cTst, cOp, cC, cVar, sRet, sAsg, gNm, gSb, cCons, cNil, cFn, f1, gInt, i0, i2, eqi, e2, md2, dv1, s0, fin, three]
  | false =>
    cases e1 : ieq r 1 with
    | false => exact long (by rw [e2, e1])
    | true =>
      cases e0 : igt p 0 with
      | false => exact long (by rw [e2, e1, e0]; rfl)
      | true => simp [b_roll, sSeq, sIf, sNil, ctOr, ctAnd, cTst, cOp, cC, cVar, sRet, sAsg, gNm, gSb, cCons, cNil, cFn, f1, gInt, i0, i2, eqi, e0, e1, e2, gt, md2, dv1, s0, fin, three]
end DL

/-! the ends of a law -/
namespace DL
open PySem PySem.Spec L2
theorem hu65 {A : Around} {k : Nat} (hr : Room k A) : A.units + 65 < cLine := by have := hr.un; omega
section
variable {X : Cx} {N : Nm} {E : XK}
theorem je_tell {l : List (Value × Str)} {hm : Nat → Option Str} {x a : Str} {g c P : Addr} {k : Nat} {st : Stmt} {fd : FuncData} {Ng : List Str} {params : Arguments} {body : Expr} {scope : Scope} {cb : CE} {p lpos pos : Pos}
    (F : Fun X.K x x st g fd) (hg : Gl X x) (hmg : X.mg x = some (.ref g)) (hb : L2.Binds X.K fd [a] []) (Sg : FnScope Ng [a] (defScope st)) (hNg : Ng[0]? = some a) (hva : Vis (defScope st) a)
    (hG : ∀ cdv, LamX.GivesTo X Ng x (defScope st) g cdv (defBody st) a (X.env.qual ++ "<lambda>") (TTm X.K l)) (hH : HmOk X.K N l hm)
    (TB : LamX.TabB X.base X.mg c P) (hcode : X.env.code = .ref c) (hmT : N.tabs = [(P, X.env.qual ++ "<lambda>")]) (hr : Room (k + 2) X.A) (L : LamX.LamS X.env.scope scope) (hdef : defaultsOf params X.env = ([], []))
    (hbind : ∀ (q : Str) (cl : List (Str × Addr)) (pm cv ctv : Value), bindArgs (PySem.W.kla_fn "<lambda>" q params body scope cl pm cv ctv) ⟨[], []⟩ = pure [])
    (hbody : ∀ (A : Around) (outer : List Env) (s : Shared) (H : Hp) (E : XK) (f c' : Addr), Room k (A.deeper (LamX.lamEnv X scope s.heap.objs.size f c')) → JE (LamX.lamCx X A outer s H E scope f c') N E body cb)
    (hdb : (x == ("__debug__" : Str)) = false := by decide) (hd : (a == ("__debug__" : Str)) = false := by decide) (hcd : (a == ("__classdict__" : Str)) = false := by decide) :
    JE X N E (.Call (.Name x p) [.Lambda params body scope lpos] [] pos) (cTold hm cb) := by
  obtain ⟨oc, od, kV, doc, pm, an, cdv, ct, osl, rfl, lk, hco⟩ := F.ex
  exact je_told hg hmg F.kp lk hco hb Sg hNg hva (hG cdv) hH TB hcode (by rw [hmT]; exact List.mem_singleton.mpr rfl) (fun p hp _ => by rw [hmT] at hp; rw [List.mem_singleton.mp hp]) hr L hdef hbind hbody hdb hd hcd
end
def spLaw (K : PySem.W.Frag) (N : Nm) : Sp := fun vs H Q _ => ∃ (a : Addr) (ns : List Int), vs = [.ref a] ∧ SqL K H a (ns.map V.int) ∧ LamX.Tabs N.tabs H ∧ ∀ H', Q (.bl true) H'
theorem tLaw_of {K : PySem.W.Frag} {N : Nm} {Ns : List Str} {vs : List V} {H : Hp} {Q : VK} {E : XK} {nx : St → Hp → Prop} (h : spLaw K N vs H Q E) (hl : 1 ≤ Ns.length) : tLaw K N Ns.length { nx := nx, rt := Q } (L2.start Ns vs) H := by
  obtain ⟨a, ns, rfl, h1, h2, h3⟩ := h
  exact ⟨a, ns, rfl, by simp [L2.start]; omega, h1, h2, h3⟩
theorem tRnd_of {K : PySem.W.Frag} {N : Nm} {Ns : List Str} {vs : List V} {H : Hp} {Q : VK} {E : XK} {nx : St → Hp → Prop} (h : spRnd K N vs H Q E) (hl : 3 ≤ Ns.length) : tRnd K N Ns.length { nx := nx, rt := Q } (L2.start Ns vs) H := by
  obtain ⟨a, ns, m, rfl, h1, h2, h3, h4⟩ := h
  match Ns, hl with
  | _ :: _ :: _ :: t, _ => exact ⟨a, ns, m, List.replicate t.length none, by simp [L2.start, List.replicate_succ], by simp, h1, h2, h3, h4⟩
end DL

/-! generator expressions within sum, any, all -/
namespace DL
open PySem PySem.Spec L2
/-- the context of a generator expression's body -/
abbrev genCx (X : Cx) (AY : Around) (s : Shared) (H : Hp) (cenv : Env) (fp : List Addr) : Cx :=
  { X with A := AY, s_0 := s, H_0 := H, env := cenv, outer := X.stack, stack := cenv :: X.stack, ex := fp, fn := fun _ => false, calm := true, pn := [], xe := fun _ _ => False }
section
variable {X : Cx} {pins : List (Addr × Obj)} {σ : L2.St} {H : Hp} {s : Shared}
theorem gen_start {AY : Around} {scope : Scope} {own : List (Str × Nat)} {fp : List Addr} {code : Value} {cenv : Env} {h' : Heap} {g' : Array GenState} {t' : Nat} {m0 : Str → Option Value}
    (I : Inv X pins σ H s) (ok : BlkOk X.N X.env.scope scope own) (hN : X.N.Nodup) (hfp : ∀ b ∈ fp, FpOk X pins H b ∧ b < s.heap.objs.size)
    (hce : cenv = genEnv scope (cloFrom X.env.cells scope.names []) s.heap.objs.size code builtinsNs X.env) (hcell : ∀ y ∈ scope.names, y.2 ≠ .cell) (hAh : AY.handled = none) (hAf : AY.frames = some (cenv :: X.stack))
    (hns : h'.Ns s.heap.objs.size m0) (kp : ∀ b o, s.heap.get? b = some o → h'.get? b = some o) (hb : PyProof.Rows.AllBare g') :
    Inv (genCx X AY s H cenv fp) [] (wipe σ (own.map (·.2))) H { s with heap := h', gens := g', toks := t' } := by
  have hfree : ∀ y ∈ scope.names, y.2 = .free → ∃ c, X.env.cells.lookup y.1 = some c := fun y hy e => (ok.free y hy e).elim (fun k => I.ok.has _ (.inl k)) fun k => I.ok.has _ (.inr k)
  have hL : cenv.locals = s.heap.objs.size := by rw [hce]; rfl
  have hcl : cenv.cells = cloFrom X.env.cells scope.names [] := by rw [hce]; rfl
  have hsc : cenv.scope = scope := by rw [hce]; rfl
  have cm : ∀ {y c}, cenv.cells.lookup y = some c → X.env.cells.lookup y = some c ∧ c < s.heap.objs.size := fun {y c} e => by
    rw [hcl] at e
    rcases cloFrom_mem (PySem.mem_of_lookup e) with hm | ⟨h1, e2⟩
    · cases hm
    · obtain ⟨c1, hc⟩ := hfree _ h1 rfl
      have hc : X.env.cells.lookup y = some c1 := hc
      have e3 : c = c1 := by rw [e2, hc]; rfl
      subst e3
      obtain ⟨_, z⟩ := I.cell _ _ hc
      exact ⟨hc, z.lt⟩
  have look : ∀ {y}, scope.names.lookup y = some .free → ∃ c, cenv.cells.lookup y = some c := fun {y} hl => by
    rw [hcl]
    exact mem_lookup (cloFrom_has (cells := X.env.cells) (acc := []) (PySem.mem_of_lookup hl))
  have okY : (genCx X AY s H cenv fp).Ok := by
    refine ⟨I.ok.mod, by show cenv.scope.kind = _; rw [hsc]; exact ok.kind, by show cenv.globals = _; rw [hce]; exact I.ok.glob, by show cenv.builtins = _; rw [hce]; rfl, by show s.heap.objs.size ≤ cenv.locals; rw [hL]; exact Nat.le_refl _,
      fun y z c e1 e2 => I.ok.inj y z c (cm e1).1 (cm e2).1, fun y hy => ?_, (fun y c z _ => by cases z), fun _ => hAh, hAf, .inr ⟨rfl, by show cenv.frame = some cenv.locals; rw [hce]; rfl⟩, fun b hb => ⟨?_, fun y c e z => ?_⟩, I.bs, Nat.le_trans I.ok.bsz I.sz, fun b o e hb => ?_, fun b hb z => ?_, I.stack, I.stkFree⟩
    · have hy : scope.names.lookup y = some .cell ∨ scope.names.lookup y = some .free := by
        have hy' : cenv.scope.names.lookup y = some .cell ∨ cenv.scope.names.lookup y = some .free := hy
        rw [hsc] at hy'
        exact hy'
      rcases hy with hy | hy
      · exact absurd rfl (hcell _ (PySem.mem_of_lookup hy))
      · exact look hy
    · show b ≠ cenv.locals
      rw [hL]; exact Nat.ne_of_lt (hfp b hb).2
    · exact (hfp b hb).1.2.2.2.2.1 y c (cm e).1 z
    · rcases (hfp b hb).1.2.2.2.1 with z | z
      · exact I.ok.noex b o e z
      · exact absurd (Nat.lt_of_lt_of_le (Heap.lt_size e) (Nat.le_trans I.ok.bsz z)) (Nat.lt_irrefl _)
    · rcases List.mem_cons.mp (I.stkSub b z) with z | z
      · exact (hfp b hb).1.2.1 z
      · exact (hfp b hb).1.2.2.1 z
  refine ⟨okY, rfl, hb, Un.kept kp, ⟨m0, by show h'.Ns cenv.locals m0; rw [hL]; exact hns, fun i y av e1 e2 e3 => ?_⟩, fun y c e => ?_, ?_, fun y c e => ?_, fun p hp => absurd (show p ∈ ([] : List (Addr × Obj)) ++ [] from hp) (by simp), I.hok.kept kp, by rw [wipe_length]; exact I.len⟩
  · obtain ⟨e2, hne⟩ := wipe_some e2
    have no : ∀ k, scope.names.lookup y = some k → k = .local ∨ k = .cell → False := fun k e hh => by
      rcases ok.own _ (PySem.mem_of_lookup e) hh with e' | e'
      · obtain ⟨p, hp, hpy⟩ := List.mem_map.mp e'
        have e3 := ok.ix p hp
        have : p.1 = y := hpy
        rw [this] at e3
        exact hne (List.mem_map.mpr ⟨p, hp, nodup_ix hN e3 e1⟩)
      · exact e' (List.mem_of_getElem? e1)
    have e3 : Vis cenv.scope y := e3
    rw [hsc] at e3
    have hfr : scope.names.lookup y = some .free := by
      rcases e3 with e3 | e3 | e3
      · exact (no _ e3 (.inl rfl)).elim
      · exact (no _ e3 (.inr rfl)).elim
      · exact e3
    obtain ⟨m, hn, hl⟩ := I.loc
    have hvis : Vis X.env.scope y := (ok.free _ (PySem.mem_of_lookup hfr) rfl).elim (fun k => .inr (.inl k)) (fun k => .inr (.inr k))
    obtain ⟨w, r, q⟩ := hl i y av e1 e2 hvis
    obtain ⟨c, h1⟩ := look hfr
    refine ⟨w, r, .inr ⟨.inr (by show cenv.scope.names.lookup y = _; rw [hsc]; exact hfr), c, h1, ?_⟩⟩
    rcases q with ⟨k, _⟩ | ⟨_, c', e', z⟩
    · have k : X.env.scope.names.lookup y = some .local := k
      rcases ok.free _ (PySem.mem_of_lookup hfr) rfl with k' | k' <;> rw [show X.env.scope.names.lookup y = _ from k'] at k <;> cases k
    · rw [(cm h1).1] at e'; cases e'
      exact z.keeps kp
  · obtain ⟨w, z⟩ := I.cell y c (cm e).1
    exact ⟨w, z.keeps kp⟩
  · show H cenv.locals = none
    rw [hL]; exact I.hok.fresh (Nat.le_refl _)
  · exact I.freeC y c (cm e).1
end
end DL

/-! the body of a generator expression, from yield to yield -/
namespace DL
open PySem PySem.Spec L2
section
variable {Y : Cx} {Γ : Type} {γ : Heap → Γ}
/-- what is said of each yield: as, the consumer's objects; W, what is wanted ahead of each turn; Yd, what is known of a value that is handed out -/
def gY (Y : Cx) (γ : Heap → Γ) (n : Nat) (as fp : List Addr) (σw : L2.St) (tn : Nat → Heap → Prop) (W : Nat → Γ → Hp → Prop) (Yd : Nat → Γ → V → Hp → Prop) : Protocol := fun m s₀ v s kap =>
  ∃ i y H, i < n ∧ n - (i + 1) + 1 ≤ m ∧ RelV y v ∧ Inv Y (pinsAt as s₀.heap) σw H s ∧ tn (i + 1) s.heap ∧ (∀ b ∈ fp, H b = none) ∧ Yd i (γ s₀.heap) y H ∧ ∀ s', Inv Y (pinsAt as s'.heap) σw H s' → tn (i + 1) s'.heap → W (i + 1) (γ s'.heap) H → kap (.send .none) s'
def gR (Y : Cx) (γ : Heap → Γ) (as : List Addr) (σw : L2.St) (End : Γ → Hp → Prop) : Nat → Shared → Shared → Prop := fun _ s₀ s₁ => ∃ H, Inv Y (pinsAt as s₀.heap) σw H s₁ ∧ End (γ s₀.heap) H
structure GStep {Γ : Type} (n : Nat) (J : It) (g : TG) (tt : TT) (te : TE) (vs : List Nat) (σw : L2.St) (W : Nat → Γ → Hp → Prop) (Yd : Nat → Γ → V → Hp → Prop) (End : Γ → Hp → Prop) : Prop where
  go : ∀ h i H, i < n → W i h H → J.go i H ∧ ∀ x H', J.yld i H x H' → g x σw H' fun σ2 H2 => wipe σ2 vs = σw ∧ tt σ2 H2 fun b H3 => if b = true then te σ2 H3 fun y H4 => Yd i h y H4 else W (i + 1) h H3
  stop : ∀ h H, W n h H → J.stop n H ∧ End h H
theorem gen_seg {A : Around} {elt tg iter : Expr} {ifs : List Expr} {scope : Scope} {pos : Pos} {it : Addr} {as fp : List Addr} {n : Nat} {J : It} {tn : Nat → Heap → Prop} {g : TG} {tt : TT} {te : TE} {vs : List Nat} {σw : L2.St} {W : Nat → Γ → Hp → Prop} {Yd : Nat → Γ → V → Hp → Prop} {End : Γ → Hp → Prop}
    (hA : A.over (.compLoop (.GeneratorExp elt [⟨tg, iter, ifs, 0⟩] scope pos) 0 (.ref it) .none Y.env) [] = Y.A) (hc : Y.calm = true) (hpn : Y.pn = []) (hex : Y.ex = fp) (hco : Y.env.scope.isCoroutine = false) (hd : ∀ b ∈ fp, b ∉ as)
    (T : Turn Y.prog Y.w Y.K tg J fp it tn) (hx : Y.xe = fun _ _ => False) (pg : PG Y tg g) (pt : PTs Y ifs tt) (pe : PE Y elt te) (G : GStep n J g tt te vs σw W Yd End) :
    ∀ (k i : Nat) (s₀ s : Shared) (H : Hp) (m : Nat), n - i = k → i ≤ n → k + 1 ≤ m → Inv Y (pinsAt as s₀.heap) σw H s → tn i s.heap → (∀ b ∈ fp, H b = none) → W i (γ s₀.heap) H →
      Seg (model Y.prog Y.w) A (fun n s₀ r s₁ => r = .ok .next ∧ gR Y γ as σw End n s₀ s₁) (gY Y γ n as fp σw tn W Yd) m s₀
        (.compLoop (.GeneratorExp elt [⟨tg, iter, ifs, 0⟩] scope pos) 0 (.ref it) .none Y.env) ((model Y.prog Y.w).den (.compLoop (.GeneratorExp elt [⟨tg, iter, ifs, 0⟩] scope pos) 0 (.ref it) .none Y.env)) [] s := by
  have stat : ∀ {s₀ : Shared} {σ' : L2.St} {H' : Hp} {s' : Shared}, Inv Y (pinsAt as s₀.heap) σ' H' s' → (∀ b ∈ fp, H' b = none) → ∀ b ∈ fp, FpOk Y (pinsAt as s₀.heap) H' b := fun {s₀ σ' H' s'} I' hn b hb =>
    ⟨hn b hb, (I'.ok.exf b (by rw [hex]; exact hb)).1, I'.ok.exfs b (by rw [hex]; exact hb), .inl (by rw [hex]; exact hb), fun x c e => (I'.ok.exf b (by rw [hex]; exact hb)).2 x c e, fun p hp z => by
      rw [hpn] at hp
      exact hd b hb (by rw [← z]; exact (of_pinsAt (show p ∈ pinsAt as s₀.heap from hp)).1)⟩
  intro k
  induction k with
  | zero =>
    intro i s₀ s H m hk hi hm I st hn w
    have e : i = n := by omega
    subst e
    obtain ⟨stop, en⟩ := G.stop (γ s₀.heap) H w
    show Seg _ A _ _ _ s₀ _ ((compTurn (.GeneratorExp elt [⟨tg, iter, ifs, 0⟩] scope pos) 0 (.ref it) .none Y.env).onRaise (leaving Y.env)) [] s
    rw [compTurn_gen, Sem.onRaise_eq_wrap]
    refine seg_bind_wrap (wpAny_standAt ?_)
    have td := T.done Y rfl rfl rfl hc i _ s _ H (fun _ _ => False) I (stat I hn) st stop
    rw [← hA] at td
    refine seg_bind_wrap (thnF td fun r s1 ⟨hr, I1⟩ => ?_)
    subst hr
    exact seg_end (.ok .next) ⟨rfl, H, I1, en⟩
  | succ k ih =>
    intro i s₀ s H m hk hi hm I st hn w
    have hlt : i < n := by omega
    obtain ⟨go, step⟩ := G.go (γ s₀.heap) i H hlt w
    show Seg _ A _ _ _ s₀ _ ((compTurn (.GeneratorExp elt [⟨tg, iter, ifs, 0⟩] scope pos) 0 (.ref it) .none Y.env).onRaise (leaving Y.env)) [] s
    rw [compTurn_gen, Sem.onRaise_eq_wrap]
    refine seg_bind_wrap (wpAny_standAt ?_)
    have ti := T.item Y rfl rfl rfl hc i _ s _ H (fun _ _ => False) I (stat I hn) st go
    rw [← hA] at ti
    refine seg_bind_wrap (thnF ti fun r s1 ⟨u, hr, h1⟩ => ?_)
    subst hr
    refine seg_bind_wrap (thnF h1 fun _ s7 ⟨x, H7, I7, r7, y7, st7, n7⟩ => ?_)
    have I7' := I7.pinned (stat I7 n7) (T.obj _ _ st7)
    have ag := pg.run _ s7 _ H7 x u _ I7' r7 (step x H7 y7)
    rw [hx, ← hA] at ag
    refine seg_bind_wrap (thnF ag fun _ s8 ⟨σ8, H8, I8, hw8, q8⟩ => ?_)
    have at_ := pt.run _ s8 σ8 H8 _ I8 q8
    rw [hx, ← hA] at at_
    refine seg_bind_wrap (thnF at_ fun b s9 ⟨H9, I9, q9⟩ => ?_)
    have fin : ∀ {s' : Shared} {H' : Hp}, Inv Y (pinsAt as s₀.heap ++ pinsAt fp s7.heap) σ8 H' s' → Inv Y (pinsAt as s₀.heap) σw H' s' ∧ tn (i + 1) s'.heap ∧ ∀ b ∈ fp, H' b = none := fun {s' H'} I' => by
      have pin' : ∀ b ∈ fp, ∀ o, s7.heap.get? b = some o → s'.heap.get? b = some o ∧ H' b = none := fun b hb o e =>
        let z := I'.pin (b, o) (List.mem_append_right _ (List.mem_append_right _ (mem_pinsAt hb e)))
        ⟨z.1, z.2.1⟩
      have hl : σw.length = σ8.length := by rw [← hw8, wipe_length]
      refine ⟨(I'.unpinned (pins := pinsAt as s₀.heap)).weak hl (fun j v e => ?_), T.keep _ _ _ st7 fun b hb o e => (pin' b hb o e).1, fun b hb => ?_⟩
      · rw [← hw8] at e
        exact (wipe_some e).1
      · obtain ⟨o, e, _⟩ := T.obj _ _ st7 b hb
        exact (pin' b hb o e).2
    cases b with
    | false =>
      simp only [Bool.false_eq_true, if_false] at q9 ⊢
      obtain ⟨Ia, sta, na⟩ := fin I9
      exact seg_again rfl (ih (i + 1) s₀ s9 H9 m (by omega) hlt (by omega) Ia sta na q9)
    | true =>
      simp only [if_true] at q9 ⊢
      have hy : ∀ v, yieldOut Y.env v = yieldValue v := fun v => by simp only [yieldOut, hco, Bool.false_eq_true, if_false]
      simp only [hy]
      rw [Sem.bind_eq_wrap', Sem.bind_eq_wrap', Sem.wrap_wrap, Sem.wrap_wrap]
      have ae := pe.run _ s9 σ8 H9 _ I9 q9
      rw [hx, ← hA] at ae
      refine seg_wrap (thnF ae fun v s10 ⟨yv, H10, I10, r10, yd⟩ => ?_)
      obtain ⟨Ia, sta, na⟩ := fin I10
      obtain ⟨m', rfl⟩ : ∃ m', m = m' + 1 := ⟨m - 1, by omega⟩
      refine seg_at (seg_yield rfl rfl rfl ⟨i, yv, H10, hlt, by omega, r10, Ia, sta, na, yd, fun s' I' st' w' => ?_⟩)
      exact seg_again rfl (ih (i + 1) s' s' H10 m' (by omega) hlt (by omega) I' st' na w')
theorem gen_seg0 {A : Around} {elt tg iter : Expr} {ifs : List Expr} {scope : Scope} {pos : Pos} {it : Addr} {as fp : List Addr} {n : Nat} {J : It} {tn : Nat → Heap → Prop} {g : TG} {tt : TT} {te : TE} {vs : List Nat} {σw : L2.St} {W : Nat → Γ → Hp → Prop} {Yd : Nat → Γ → V → Hp → Prop} {End : Γ → Hp → Prop}
    (hA : A.over (.compLoop (.GeneratorExp elt [⟨tg, iter, ifs, 0⟩] scope pos) 0 (.ref it) .none Y.env) [] = Y.A) (hc : Y.calm = true) (hpn : Y.pn = []) (hex : Y.ex = fp) (hco : Y.env.scope.isCoroutine = false) (hd : ∀ b ∈ fp, b ∉ as)
    (T : Turn Y.prog Y.w Y.K tg J fp it tn) (hx : Y.xe = fun _ _ => False) (pg : PG Y tg g) (pt : PTs Y ifs tt) (pe : PE Y elt te) (G : GStep n J g tt te vs σw W Yd End)
    {s₀ s : Shared} {H : Hp} (I : Inv Y (pinsAt as s₀.heap) σw H s) (st : tn 0 s.heap) (hn : ∀ b ∈ fp, H b = none) (w : W 0 (γ s₀.heap) H) :
      Seg (model Y.prog Y.w) A (fun n s₀ r s₁ => r = .ok .next ∧ gR Y γ as σw End n s₀ s₁) (gY Y γ n as fp σw tn W Yd) (n + 1) s₀
        (.compStart (.GeneratorExp elt [⟨tg, iter, ifs, 0⟩] scope pos) 0 (.ref it) .none Y.env) ((model Y.prog Y.w).den (.compStart (.GeneratorExp elt [⟨tg, iter, ifs, 0⟩] scope pos) 0 (.ref it) .none Y.env)) [] s := by
  have loop := gen_seg (γ := γ) hA hc hpn hex hco hd T hx pg pt pe G n 0 s₀ s H (n + 1) (Nat.sub_zero _) (Nat.zero_le _) (Nat.le_refl _) I st hn w
  show Seg _ A _ _ _ s₀ _ ((compStart (.GeneratorExp elt [⟨tg, iter, ifs, 0⟩] scope pos) 0 (.ref it) .none Y.env).onRaise (leaving Y.env)) [] s
  unfold compStart
  rw [Sem.onRaise_eq_wrap]
  show Seg _ A _ _ _ s₀ _ ((ask >>= _).wrap _ _ _ _) [] s
  refine seg_bind_wrap (wpAny_askSetting ?_)
  split
  · exact seg_again rfl loop
  · refine seg_bind_wrap (wpAny_rule ?_)
    show Seg _ A _ _ _ s₀ _ ((standAt iter.pos >>= _).wrap _ _ _ _) [] s
    exact seg_bind_wrap (wpAny_standAt (seg_bind_wrap (T.self _ 0 s _ _ st (seg_again rfl loop))))
end
end DL

/-! the consumer's side of a generator expression -/
namespace DL
open PySem PySem.Spec L2
section
variable {Γ : Type} {γ : Heap → Γ} {Y : Cx} {A : Around} {as fp : List Addr} {n : Nat} {tn : Nat → Heap → Prop} {σw : L2.St} {W : Nat → Γ → Hp → Prop} {Yd : Nat → Γ → V → Hp → Prop} {End : Γ → Hp → Prop}
/-- woken in any state that is as it was, it goes on -/
def Rest (γ : Heap → Γ) (Y : Cx) (A : Around) (n : Nat) (as fp : List Addr) (σw : L2.St) (tn : Nat → Heap → Prop) (W : Nat → Γ → Hp → Prop) (Yd : Nat → Γ → V → Hp → Prop) (End : Γ → Hp → Prop) (i : Nat) (H : Hp) (gs : GenState) (m : Nat) : Prop :=
  ∀ s', Inv Y (pinsAt as s'.heap) σw H s' → tn i s'.heap → W i (γ s'.heap) H → gs.Goes (model Y.prog Y.w) A.in1 (fun n s₀ r s₁ => r = .ok .next ∧ gR Y γ as σw End n s₀ s₁) (gY Y γ n as fp σw tn W Yd) m (.send .none) s'
/-- the generator a, number gi, at rest ahead of turn i -/
structure GAt (γ : Heap → Γ) (Y : Cx) (A : Around) (n : Nat) (as fp : List Addr) (σw : L2.St) (tn : Nat → Heap → Prop) (W : Nat → Γ → Hp → Prop) (Yd : Nat → Γ → V → Hp → Prop) (End : Γ → Hp → Prop) (a : Addr) (gi i m : Nat) (H : Hp) (s : Shared) : Prop where
  isg : s.heap.IsGen a gi
  inv : Inv Y (pinsAt as s.heap) σw H s
  tni : tn i s.heap
  fpn : ∀ b ∈ fp, H b = none
  alive : ∀ b ∈ as, ∃ o, s.heap.get? b = some o
  gen : ∃ gs, s.gens[gi]? = some gs ∧ n - i + 1 ≤ m ∧ Rest γ Y A n as fp σw tn W Yd End i H gs m
theorem Inv.gens {pins : List (Addr × Obj)} {σ : L2.St} {H : Hp} {s : Shared} {g' : Array GenState} {h' : Heap} {t' : Nat} (I : Inv Y pins σ H s) (hb : PyProof.Rows.AllBare g') (k : ∀ b o, s.heap.get? b = some o → h'.get? b = some o) : Inv Y pins σ H { s with heap := h', gens := g', toks := t' } := by
  refine I.step (g' := g') (d' := s.drawn) (ch := []) (fun b hb => absurd hb (by simp)) (fun b o _ _ _ e _ => k b o e) (fun b o _ _ _ e _ => ⟨o.slots, k b o e⟩) (fun _ _ _ _ q => q) (fun b o _ e => ⟨o, k b o e⟩) (fun _ _ q => q) (fun _ _ _ q => q) (fun b ps q => ⟨#[], by rw [q]; simp⟩) (fun m hm => ?_) (fun b u q => ?_) hb
  · exact hm.keeps k
  · exact (I.hok b u q).stay (fun c v _ y => k c v y) (fun _ y => y) fun _ _ y => y
theorem bare_set {gs : Array GenState} {g : Nat} {x : GenState} (h : PyProof.Rows.AllBare gs) (hx : x.bare = true) : PyProof.Rows.AllBare (gs.setIfInBounds g x) := fun y hy => by
  obtain ⟨i, hi, rfl⟩ := Array.mem_iff_getElem.mp hy
  rw [Array.getElem_setIfInBounds (by simpa using hi)]
  split
  · exact hx
  · exact h _ (Array.getElem_mem _)
theorem Inv.setGen {pins : List (Addr × Obj)} {σ : L2.St} {H : Hp} {s : Shared} {g : Nat} {x : GenState} (I : Inv Y pins σ H s) (hx : x.bare = true) : Inv Y pins σ H (s.setGen g x) :=
  Inv.gens (t' := s.toks) I (bare_set I.bare hx) fun _ _ e => e
/-- the consumer's objects as they stand -/
theorem Inv.repin {σ : L2.St} {H : Hp} {s s0 : Shared} (hl : ∀ b ∈ as, ∃ o, s0.heap.get? b = some o) (I : Inv Y (pinsAt as s0.heap) σ H s) : Inv Y (pinsAt as s.heap) σ H s ∧ ∀ b ∈ as, ∀ o, s0.heap.get? b = some o → s.heap.get? b = some o := by
  have pin : ∀ b ∈ as, ∀ o, s0.heap.get? b = some o → s.heap.get? b = some o := fun b hb o e => (I.pin (b, o) (List.mem_append_right _ (mem_pinsAt hb e))).1
  refine ⟨I.pins_of fun p hp => ?_, pin⟩
  obtain ⟨h1, h2⟩ := of_pinsAt hp
  obtain ⟨o, e⟩ := hl p.1 h1
  have e2 := pin _ h1 o e
  rw [h2] at e2
  cases e2
  exact I.pin _ (List.mem_append_right _ (mem_pinsAt h1 e))
theorem gen_next {a : Addr} {gi i m : Nat} {H : Hp} {s : Shared} {Q : Option Value → Shared → Prop} {E : Value → Shared → Prop} (hh : A.handled = none) (hroom : A.depth < recursionLimit) (ha : a ∈ as) (G : GAt γ Y A n as fp σw tn W Yd End a gi i (m + 1) H s) (w : W i (γ s.heap) H)
    (hsome : ∀ v s' i' y H', i' < n → RelV y v → GAt γ Y A n as fp σw tn W Yd End a gi (i' + 1) m H' s' → Yd i' (γ s.heap) y H' → (∀ b ∈ as, ∀ o, s.heap.get? b = some o → s'.heap.get? b = some o) → Q (some v) s')
    (hnone : ∀ s' H', Inv Y (pinsAt as s.heap) σw H' s' → End (γ s.heap) H' → Q none s') : wpAny (model Y.prog Y.w) A (pyNext (.ref a)) Q E s := by
  obtain ⟨gs, hgs, hm, rest⟩ := G.gen
  have hlt : gi + 1 ≤ s.gens.size := by
    rcases Nat.lt_or_ge gi s.gens.size with h' | h'
    · exact h'
    · rw [Array.getElem?_eq_none h'] at hgs; cases hgs
  refine GenW.wpAny_gsz hlt ?_
  refine wpAny_pyNext_genexpQ (P := gR Y γ as σw End) (Y := gY Y γ n as fp σw tn W Yd) (n := m + 1) hh G.inv.nolimit hroom G.isg hgs (rest _ (Inv.setGen (g := gi) G.inv rfl) G.tni w) (fun v s1 gs' hb hv hsz => ?_) (fun s1 hp h' hk _ => ?_)
  · obtain ⟨i', y, H', h1, h2, h3, h4, h5, h6, h7, h8⟩ := hv
    have hI : Inv Y (pinsAt as s.heap) σw H' s1 := h4
    obtain ⟨hI2, pin⟩ := Inv.repin (s0 := s) G.alive hI
    have hsz' : gi < s1.gens.size := by
      have : (s1.setGen gi gs').gens.size = s1.gens.size := by simp [Shared.setGen]
      omega
    obtain ⟨o, nm, qn, ho, r⟩ := G.isg
    refine hsome v _ i' y H' h1 h3 ⟨⟨o, nm, qn, pin a ha o ho, r⟩, Inv.setGen hI2 hb, h5, h6, fun b hb => ?_, gs', by simp [Shared.setGen, hsz'], h2, fun s' I' t' w' => h8 s' I' t' w'⟩ h7 pin
    obtain ⟨o, e⟩ := G.alive b hb
    exact ⟨o, pin b hb o e⟩
  · obtain ⟨H', hI, en⟩ := hp
    have hI : Inv Y (pinsAt as s.heap) σw H' s1 := hI
    exact hnone _ H' (Inv.gens (s := s1) (g' := (s1.setGen gi .finished).gens) (h' := h') (t' := s1.toks) hI (bare_set hI.bare rfl) hk) en
end
end DL

/-! any, all over a generator expression -/
namespace DL
open PySem PySem.Spec L2
/-- the sum so far, as it stands in the list S -/
def accAt (S : Addr) (h : Heap) : Int := match h.get? S with
  | some o => match o.data with
    | .seq xs _ => match xs[0]? with
      | some (Value.int z _) => z
      | _ => 0
    | _ => 0
  | none => 0
theorem accAt_of {S : Addr} {h : Heap} {z : Int} {t : Tok} {c : Nat} (e : h.get? S = some { cls := .type "list", dict := none, data := .seq #[.int z t] c, slots := #[] }) : accAt S h = z := by
  unfold accAt
  rw [e]
  rfl
section
variable {Γ : Type} {γ : Heap → Γ} {Y : Cx} {A : Around} {as fp : List Addr} {n : Nat} {tn : Nat → Heap → Prop} {σw : L2.St} {W : Nat → Γ → Hp → Prop} {Yd : Nat → Γ → V → Hp → Prop} {End : Γ → Hp → Prop} {a : Addr} {gi : Nat} {R : Result → Shared → Prop} {Fin : Bool → Hp → Prop}
theorem any_loop (hh : A.handled = none) (hroom : A.in1.depth < recursionLimit) (ha : a ∈ as) (hY : ∀ i h h' y H, Yd i h y H → ∃ b, y = .bl b ∧ (b = true → Fin true H) ∧ (b = false → W (i + 1) h' H)) (hE : ∀ h H, End h H → Fin false H)
    (hR : ∀ b H' s' pins, Inv Y pins σw H' s' → Fin b H' → R (.ok (.ret (.bool b))) s') :
    ∀ (m i : Nat) (H : Hp) (s : Shared), GAt γ Y A.in1 n as fp σw tn W Yd End a gi i m H s → W i (γ s.heap) H → codeAny (model Y.prog Y.w) A (.builtin "any.loop" ⟨[.ref a], []⟩) R s := by
  intro m
  induction m with
  | zero =>
    intro i H s G w
    obtain ⟨_, _, h, _⟩ := G.gen
    omega
  | succ m ih =>
    intro i H s G w
    refine codeAny_builtin F.entry_any_loop ?_
    rw [Around.under_plainId F.plain_any_loop _]
    show wpAny _ A.in1 (pyNext (.ref a) >>= _) _ _ s
    refine wpAny_bind (gen_next (A := A.in1) hh hroom ha G w (fun v s' i' y H' h1 rv G' yd _ => ?_) (fun s' H' I' en => ?_))
    · obtain ⟨b, rfl, h2, h3⟩ := hY i' (γ s.heap) (γ s'.heap) y H' yd
      obtain rfl : v = Value.bool b := rv
      refine wpAny_bind (wpAny_holding (wpAny_truthy_bool ?_))
      refine wpAny_bind (wpAny_letGo ?_)
      cases b with
      | false =>
        simp only [Bool.false_eq_true, if_false]
        exact wpAny_pure ⟨plainId_quiet F.plain_any_loop _, ih (i' + 1) H' s' G' (h3 rfl)⟩
      | true =>
        simp only [if_true]
        exact wpAny_bind (wpAny_rule (wpAny_pure (hR true H' s' _ G'.inv (h2 rfl))))
    · exact wpAny_bind (wpAny_rule (wpAny_pure (hR false H' s' _ I' (hE _ H' en))))
theorem all_loop (hh : A.handled = none) (hroom : A.in1.depth < recursionLimit) (ha : a ∈ as) (hY : ∀ i h h' y H, Yd i h y H → ∃ b, y = .bl b ∧ (b = false → Fin false H) ∧ (b = true → W (i + 1) h' H)) (hE : ∀ h H, End h H → Fin true H)
    (hR : ∀ b H' s' pins, Inv Y pins σw H' s' → Fin b H' → R (.ok (.ret (.bool b))) s') :
    ∀ (m i : Nat) (H : Hp) (s : Shared), GAt γ Y A.in1 n as fp σw tn W Yd End a gi i m H s → W i (γ s.heap) H → codeAny (model Y.prog Y.w) A (.builtin "all.loop" ⟨[.ref a], []⟩) R s := by
  intro m
  induction m with
  | zero =>
    intro i H s G w
    obtain ⟨_, _, h, _⟩ := G.gen
    omega
  | succ m ih =>
    intro i H s G w
    refine codeAny_builtin F.entry_all_loop ?_
    rw [Around.under_plainId F.plain_all_loop _]
    show wpAny _ A.in1 (pyNext (.ref a) >>= _) _ _ s
    refine wpAny_bind (gen_next (A := A.in1) hh hroom ha G w (fun v s' i' y H' h1 rv G' yd _ => ?_) (fun s' H' I' en => ?_))
    · obtain ⟨b, rfl, h2, h3⟩ := hY i' (γ s.heap) (γ s'.heap) y H' yd
      obtain rfl : v = Value.bool b := rv
      refine wpAny_bind (wpAny_holding (wpAny_truthy_bool ?_))
      refine wpAny_bind (wpAny_letGo ?_)
      cases b with
      | true =>
        simp only [if_true]
        exact wpAny_pure ⟨plainId_quiet F.plain_all_loop _, ih (i' + 1) H' s' G' (h3 rfl)⟩
      | false =>
        simp only [Bool.false_eq_true, if_false]
        exact wpAny_bind (wpAny_rule (wpAny_pure (hR false H' s' _ G'.inv (h2 rfl))))
    · exact wpAny_bind (wpAny_rule (wpAny_pure (hR true H' s' _ I' (hE _ H' en))))
end
theorem GAt.turned {Γ : Type} {γ : Heap → Γ} {Y : Cx} {A : Around} {as fp : List Addr} {n : Nat} {tn : Nat → Heap → Prop} {σw : L2.St} {W : Nat → Γ → Hp → Prop} {Yd : Nat → Γ → V → Hp → Prop} {End : Γ → Hp → Prop} {a S : Addr} {gi i m : Nat} {H : Hp} {s : Shared} {h' : Heap} {t' : Nat} {o' : Obj}
    (G : GAt γ Y A n as fp σw tn W Yd End a gi i m H s) (hS : S ∈ as) (hSa : S ≠ a) (hSf : S ∉ fp) (hst : ∀ b ∈ as, ∃ H0, FpOk Y [] H0 b) (tk : ∀ i h h', tn i h → (∀ b ∈ fp, ∀ o, h.get? b = some o → h'.get? b = some o) → tn i h') (hs : h'.get? S = some o') (hd : ∀ v, o'.data ≠ .cell v)
    (k : ∀ b o, b ≠ S → s.heap.get? b = some o → h'.get? b = some o) : GAt γ Y A n as fp σw tn W Yd End a gi i m H { s with heap := h', toks := t' } := by
  have hn : ∀ b ∈ as, H b = none := fun b hb => by
    obtain ⟨o, e⟩ := G.alive b hb
    exact (G.inv.pin (b, o) (List.mem_append_right _ (mem_pinsAt hb e))).2.1
  have I0 : Inv Y [] σw H s := G.inv.pins_of fun p hp => nomatch hp
  obtain ⟨H0, _, f1, f2, f3, f4, f5⟩ := hst S hS
  have I1 : Inv Y [] σw H { s with heap := h', toks := t' } := I0.turned (t' := t') k (hn S hS) f1 f3 f4 f5
  obtain ⟨o, nm, qn, ho, r⟩ := G.isg
  refine ⟨⟨o, nm, qn, k a o (Ne.symm hSa) ho, r⟩, I1.pins_of fun p hp => ?_, tk _ _ _ G.tni fun b hb o e => k b o (fun z => hSf (by rw [← z]; exact hb)) e, G.fpn, fun b hb => ?_, G.gen⟩
  · obtain ⟨h1, h2⟩ := of_pinsAt hp
    obtain ⟨H0, _, f1, f2, _⟩ := hst p.1 h1
    refine ⟨h2, hn _ h1, f1, f2, ?_⟩
    by_cases z : p.1 = S
    · rw [z] at h2
      have h2 : h'.get? S = some p.2 := h2
      rw [hs] at h2; cases h2; exact hd
    · obtain ⟨o, e⟩ := G.alive p.1 h1
      have h2 : h'.get? p.1 = some p.2 := h2
      rw [k _ o z e] at h2
      have h3 : o = p.2 := Option.some.inj h2
      rw [← h3]
      exact (G.inv.pin (p.1, o) (List.mem_append_right _ (mem_pinsAt h1 e))).2.2.2.2
  · by_cases z : b = S
    · exact ⟨o', by rw [z]; exact hs⟩
    · obtain ⟨o, e⟩ := G.alive b hb
      exact ⟨o, k b o z e⟩
section
variable {Y : Cx} {A : Around} {as fp : List Addr} {n : Nat} {tn : Nat → Heap → Prop} {σw : L2.St} {W : Nat → Int → Hp → Prop} {Yd : Nat → Int → V → Hp → Prop} {End : Int → Hp → Prop} {a S : Addr} {gi : Nat} {R : Result → Shared → Prop} {Fin : Int → Hp → Prop}
theorem sum_loop (hh : A.handled = none) (hroom : A.in1.depth < recursionLimit) (ha : a ∈ as) (hS : S ∈ as) (hSa : S ≠ a) (hSf : S ∉ fp) (hst : ∀ b ∈ as, ∃ H0, FpOk Y [] H0 b) (tk : ∀ i h h', tn i h → (∀ b ∈ fp, ∀ o, h.get? b = some o → h'.get? b = some o) → tn i h') (hY : ∀ i z y H, Yd i z y H → ∃ v, y = .int v ∧ InLong v ∧ InLong (z + v) ∧ W (i + 1) (z + v) H) (hE : ∀ z H, End z H → Fin z H)
    (hR : ∀ z t H' s' pins, Inv Y pins σw H' s' → Fin z H' → R (.ok (.ret (.int z t))) s') :
    ∀ (m i : Nat) (H : Hp) (s : Shared) (z : Int) (tA : Tok) (c : Nat), GAt (accAt S) Y A.in1 n as fp σw tn W Yd End a gi i m H s → s.heap.get? S = some { cls := .type "list", dict := none, data := .seq #[.int z tA] c, slots := #[] } → W i z H →
      codeAny (model Y.prog Y.w) A (.builtin "sum.loop" ⟨[.ref a, .ref S, rawInt 0, rawInt 0], []⟩) R s := by
  intro m
  induction m with
  | zero =>
    intro i H s z tA c G hs w
    obtain ⟨_, _, h, _⟩ := G.gen
    omega
  | succ m ih =>
    intro i H s z tA c G hs w
    refine codeAny_builtin F.entry_sum_loop ?_
    rw [Around.under_plainId F.plain_sum_loop _]
    show wpAny _ A.in1 (seqItems? (.ref S) >>= _) _ _ s
    refine wpAny_bind (wpAny_seqItems hs rfl ?_)
    show wpAny _ A.in1 (tryCatch (pyNext (.ref a)) _ >>= _) _ _ s
    refine wpAny_bind (wpAny_tryCatch (gen_next (A := A.in1) hh hroom ha G (by rw [accAt_of hs]; exact w) (fun u s' i' y H' h1 rv G' yd pin => ?_) (fun s' H' I' en => ?_)))
    · rw [accAt_of hs] at yd
      obtain ⟨v, rfl, ⟨f1, f2⟩, ⟨f3, f4⟩, w'⟩ := hY i' z y H' yd
      obtain ⟨t, rfl⟩ := _root_.id rv
      have hs' := pin S hS _ hs
      have hc : ((decide (-(2 ^ 63) ≤ v) && decide (v < 2 ^ 63)) && (decide (-(2 ^ 63) ≤ z + v) && decide (z + v < 2 ^ 63))) = true := by
        simp only [Bool.and_eq_true, decide_eq_true_eq]
        exact ⟨⟨f1, f2⟩, f3, f4⟩
      show wpAny _ A.in1 (if (_ : Bool) = true then (PySem.mkInt (z + v) >>= _) else _) _ _ _
      split
      · refine wpAny_bind (wpAny_mkInt ?_)
        show wpAny _ A.in1 (updateSeq S (fun _ => #[.int (z + v) s'.toks]) >>= _) _ _ _
        refine wpAny_bind ?_
        refine wpAny_updateSeq hs' rfl (wpAny_pure ⟨plainId_quiet F.plain_sum_loop _, ih (i' + 1) H' _ (z + v) s'.toks _ ?_ (Heap.get?_update_self _ hs' rfl) w'⟩)
        exact GAt.turned (S := S) (s := s') (t' := s'.toks + 1) G' hS hSa hSf hst tk (Heap.get?_update_self _ hs' rfl) (fun v z => by cases z) fun b o hb e => (Heap.get?_update_other _ _ (fun h : S = b => hb h.symm)).trans e
      · rename_i hneg
        exact absurd hc hneg
    · rw [accAt_of hs] at en
      exact wpAny_pure (hR z tA H' s' _ I' (hE z H' en))
end
end DL

/-! the making of a generator expression -/
namespace DL
open PySem PySem.Spec L2
theorem over_gen {A : Around} {elt tg iter : Expr} {ifs : List Expr} {scope : Scope} {pos : Pos} {it acc : Value} {env : Env} : A.over (.compLoop (.GeneratorExp elt [⟨tg, iter, ifs, 0⟩] scope pos) 0 it acc env) [] = A.deeper env := by
  first
    | rfl
    | (obtain ⟨hd, d, fr, gs, u⟩ := A; simp [Around.over, Around.deeper, marksOver, frameCount, unitsOf, envsOf, guardsOf, pushEnvs, pushGuards, Code.envs, Code.env?, Code.isFrame, Code.guards, Code.isGuard, Code.weight, Code.frames, Code.isCreation, Code.isCaller, Code.cUnits])
section
variable {X : Cx} {pins : List (Addr × Obj)} {σ : L2.St} {H : Hp} {s : Shared}
/-- the code object of a generator expression is new, or found in the table -/
theorem gen_code {T : List (Addr × Str)} {c P : Addr} {scope : Scope} {gpos : Pos} {E : Value → Shared → Prop} {Q : Value → Addr → Shared → Prop} (I : Inv X pins σ H s) (TB : LamX.TabB X.base X.mg c P) (hcode : X.env.code = .ref c)
    (hm : (P, X.env.qual ++ "<genexpr>") ∈ T) (hu : ∀ p ∈ T, p.1 = P → p.2 = X.env.qual ++ "<genexpr>") (hT : LamX.Tabs T H)
    (h : ∀ (cv : Value) (H1 : Hp) (s' : Shared), Inv X pins σ H1 s' → LamX.ExtN H H1 → LamX.Tabs T H1 → s.heap.objs.size ≤ s'.heap.objs.size → (∀ b o, H b = none → s.heap.get? b = some o → s'.heap.get? b = some o ∧ H1 b = none) → Q cv builtinsNs s') :
    wpAny (model X.prog X.w) X.A (genexprCode X.env gpos (X.env.qual ++ "<genexpr>") scope) (fun code s₃ => wpAny (model X.prog X.w) X.A (builtinsFor X.env.globals X.env.builtins) (fun bi s₄ => Q code bi s₄) E s₃) E s := by
  obtain ⟨ps, hP, ht, ha⟩ := hT _ hm
  have hPs : s.heap.get? P = some { cls := .none, data := .fields ps } := I.hok P _ hP
  have cd : PySem.W.CodeHd s.heap c P := TB.code.keeps I.bk
  have bl : ∀ {h' : Heap} {tk : Nat} {cv : Value}, (∀ b o, b ≠ P → s.heap.get? b = some o → h'.get? b = some o) → Q cv builtinsNs { s with heap := h', toks := tk } →
      wpAny (model X.prog X.w) X.A (builtinsFor X.env.globals X.env.builtins) (fun bi s₄ => Q cv bi s₄) E { s with heap := h', toks := tk } := fun {h' tk cv} k q => by
    obtain ⟨bm, ob, e1, e2, e3, e4, e5, e6, e7, e8⟩ := TB.bm
    obtain ⟨og, es, ep, hg, r⟩ := I.mod.glob.keeps I.bk
    exact wpAny_builtinsFor (m := X.mg) (by rw [I.ok.glob]; exact ⟨og, es, ep, k _ og TB.gP hg, r⟩) e1 e2 (k _ _ e4 (I.bk _ _ e5)) e6 e7 e8 q
  cases hc : codeAmong gpos ps.toList with
  | none =>
    refine wpAny_genexprCodeX hcode (cd.code hPs ht) (cd.tab hPs) hc fun c' h' tk hx hge hlt hco' hrec htab' _ => ?_
    obtain ⟨c2, oc, vs, t, e2, hoc, hd, hv⟩ := hrec
    cases e2
    have nC : H c' = none := I.hok.fresh hge
    have I1 := LamX.inv_table (t' := tk) (more := #[rawInt gpos.line, rawInt gpos.col, .ref c']) (h' := h') I hP hx htab'.2 hge ⟨oc, vs, t, hoc, hd, hv⟩
    have hE : LamX.ExtN H (upd (upd H P (.tbl (ps ++ #[rawInt gpos.line, rawInt gpos.col, .ref c']))) c' (LamX.CodeO c' (X.env.qual ++ "<genexpr>"))) := fun b o e n => by
      rw [upd_ne (ne_of_none e nC), upd_ne (fun z => n ps (Option.some.inj (e.symm.trans (by rw [z]; exact hP))))]
      exact e
    have eL : (ps ++ #[rawInt gpos.line, rawInt gpos.col, .ref c']).toList = ps.toList ++ [rawInt gpos.line, rawInt gpos.col, .ref c'] := by simp
    refine bl hx (h (.ref c') _ _ I1 hE (fun p hp => ?_) (Nat.le_trans hge (Nat.le_of_lt hlt)) fun b o hb e => ?_)
    · by_cases hb : p.1 = P
      · rw [hu p hp hb, hb]
        refine ⟨_, by rw [upd_ne (ne_of_none hP nC), upd_same], by rw [eL]; exact PySem.TriplesOk_snoc _ _ _ _ ht, fun p' cv hcv => ?_⟩
        rw [eL] at hcv
        rcases LamX.among_app _ ht hcv with z | z
        · obtain ⟨c0, e1, e2⟩ := ha p' cv z
          exact ⟨c0, e1, hE _ _ e2 LamX.codeO_ne⟩
        · exact ⟨c', z, upd_same⟩
      · obtain ⟨ps', a1, a2, a3⟩ := hT p hp
        refine ⟨ps', by rw [upd_ne (ne_of_none a1 nC), upd_ne hb]; exact a1, a2, fun p' cv hcv => ?_⟩
        obtain ⟨c0, e1, e2⟩ := a3 p' cv hcv
        exact ⟨c0, e1, hE _ _ e2 LamX.codeO_ne⟩
    · have hbP : b ≠ P := fun z => by rw [z, hP] at hb; cases hb
      have hbc : b ≠ c' := Nat.ne_of_lt (Nat.lt_of_lt_of_le (Heap.lt_size e) hge)
      exact ⟨hx b o hbP e, by rw [upd_ne hbc, upd_ne hbP]; exact hb⟩
  | some cv =>
    refine wpAny_genexprCode_hit hcode (cd.code hPs ht) hc ?_
    exact bl (h' := s.heap) (tk := s.toks) (fun _ _ _ e => e) (h cv H s I (LamX.ExtN.refl H) hT (Nat.le_refl _) fun b o hb e => ⟨e, hb⟩)
/-- the generator expression's own scope -/
structure GenSc (scope : Scope) : Prop where
  co : scope.isCoroutine = false
  cell : ∀ y ∈ scope.names, y.2 ≠ .cell
  dot : scope.names.lookup (".0" : Str) = some NameKind.local
def genScB (scope : Scope) : Bool := !scope.isCoroutine && (scope.names.all fun y => !decide (y.2 = .cell)) && decide (scope.names.lookup (".0" : Str) = some NameKind.local)
theorem genSc_by {scope : Scope} (h : genScB scope = true) : GenSc scope := by
  unfold genScB at h
  simp only [Bool.and_eq_true, Bool.not_eq_true', decide_eq_true_eq, decide_eq_false_iff_not, List.all_eq_true] at h
  exact ⟨h.1.1, h.1.2, h.2⟩
abbrev gEnv (X : Cx) (scope : Scope) (L : Addr) (code : Value) : Env := genEnv scope (cloFrom X.env.cells scope.names []) L code builtinsNs X.env
/-- the generator a, number gi, has been made in the state s5; Y its body's context -/
structure Mk (X : Cx) (pins : List (Addr × Obj)) (σ : L2.St) (g : TG) (tt : TT) (te : TE) (vs : List Nat) (Y : Cx) (J : It) (fp : List Addr) (tn : Nat → Heap → Prop) (a : Addr) (gi : Nat) (H2 : Hp) (s5 : Shared) : Prop where
  inv : Inv Y [] (wipe σ vs) H2 s5
  isg : s5.heap.IsGen a gi
  tn0 : tn 0 s5.heap
  keep : ∀ i h h', tn i h → (∀ b ∈ fp, ∀ o, h.get? b = some o → h'.get? b = some o) → tn i h'
  fpn : ∀ b ∈ fp, H2 b = none
  fpl : ∀ b ∈ fp, b < a
  fpa : FpOk Y [] H2 a
  sz : s5.heap.objs.size = a + 1
  obj : ∃ o, s5.heap.get? a = some o ∧ ∀ v, o.data ≠ .cell v
  gst : ∃ gs, s5.gens[gi]? = some gs ∧ ∀ (Γ : Type) (γ : Heap → Γ) (n : Nat) (as : List Addr) (W : Nat → Γ → Hp → Prop) (Yd : Nat → Γ → V → Hp → Prop) (End : Γ → Hp → Prop), (∀ b ∈ fp, b ∉ as) → GStep n J g tt te vs (wipe σ vs) W Yd End → Rest γ Y X.A.in1 n as fp (wipe σ vs) tn W Yd End 0 H2 gs (n + 1)
  prog : Y.prog = X.prog
  w : Y.w = X.w
  back : ∀ pins' σ' H' s', Inv Y pins' σ' H' s' → Inv X pins σ H' s'
theorem gen_made {T : List (Addr × Str)} {c P : Addr} {elt tg iter : Expr} {ifs : List Expr} {scope : Scope} {own : List (Str × Nat)} {gpos : Pos} {wi : TI} {g : TG} {tt : TT} {te : TE} {k : Nat} {Q' : Value → Shared → Prop} {R : It → Hp → Prop}
    (hr : Room (k + 1) X.A) (hN : X.N.Nodup) (TB : LamX.TabB X.base X.mg c P) (hcode : X.env.code = .ref c) (hm : (P, X.env.qual ++ "<genexpr>") ∈ T) (hu : ∀ p ∈ T, p.1 = P → p.2 = X.env.qual ++ "<genexpr>") (S : GenSc scope)
    (hi : PI X tg iter wi) (ok : BlkOk X.N X.env.scope scope own)
    (hg : ∀ (AY : Around) (s : Shared) (H : Hp) (L : Addr) (code : Value) (fp : List Addr), Room k AY → PG (genCx X AY s H (gEnv X scope L code) fp) tg g)
    (ht : ∀ (AY : Around) (s : Shared) (H : Hp) (L : Addr) (code : Value) (fp : List Addr), Room k AY → PTs (genCx X AY s H (gEnv X scope L code) fp) ifs tt)
    (he : ∀ (AY : Around) (s : Shared) (H : Hp) (L : Addr) (code : Value) (fp : List Addr), Room k AY → PE (genCx X AY s H (gEnv X scope L code) fp) elt te)
    (hs : ∀ v, genFold iter X.env v = pure v) (I : Inv X pins σ H s) (h : wi σ H fun J H1 => LamX.Tabs T H1 ∧ ∀ H2, LamX.ExtN H1 H2 → LamX.Tabs T H2 → R J H2)
    (hQ : ∀ (Y : Cx) (J : It) (fp : List Addr) (tn : Nat → Heap → Prop) (a : Addr) (gi : Nat) (H2 : Hp) (s5 : Shared), R J H2 → Mk X pins σ g tt te (own.map (·.2)) Y J fp tn a gi H2 s5 → Q' (.ref a) s5) :
    wpAny (model X.prog X.w) X.A (eval (.GeneratorExp elt [⟨tg, iter, ifs, 0⟩] scope gpos) X.env) Q' X.xe s := by
  have hfree : ∀ y ∈ scope.names, y.2 = .free → ∃ c, X.env.cells.lookup y.1 = some c := fun y hy e => (ok.free y hy e).elim (fun k => I.ok.has _ (.inl k)) fun k => I.ok.has _ (.inr k)
  refine wpAny_GeneratorExp_make S.co (closure_ok hfree) S.cell S.dot ok.kind (by have := hr.dp; omega) ?_ hs
  refine thn (hi.run pins s σ H _ I h) fun xv s1 hx => thn hx fun itv s2 h2 => ?_
  obtain ⟨it, fp, tn, J, H1, e, I2, Tn, st2, f2, hT1, q⟩ := h2
  subst e
  refine ⟨I2.nolimit, gen_code I2 TB hcode hm hu hT1 fun cv H2 s4 I4 x4 t4 sz4 k4 => ?_⟩
  have q2 := q H2 x4 t4
  intro h' hns hsb
  have st4 : tn 0 s4.heap := Tn.keep _ _ _ st2 fun b hb o e => (k4 b o (f2 b hb).1 e).1
  have f4 : ∀ b ∈ fp, FpOk X pins H2 b ∧ b < s4.heap.objs.size := fun b hb => by
    obtain ⟨o, e, _⟩ := Tn.obj _ _ st2 b hb
    exact ⟨⟨(k4 b o (f2 b hb).1 e).2, (f2 b hb).2⟩, Nat.lt_of_lt_of_le (Heap.lt_size e) sz4⟩
  have kp1 : ∀ b o, s4.heap.get? b = some o → h'.get? b = some o := fun b o e => hsb.extBut b o (Nat.ne_of_lt (Heap.lt_size e)) (Heap.get?_push_of_some _ e)
  have sz1 : h'.objs.size = s4.heap.objs.size + 1 := by rw [hsb.1, Heap.size_push]
  generalize hAY : X.A.in1.in1.deeper (gEnv X scope s4.heap.objs.size cv) = AY
  have rY : Room k AY := by
    rw [← hAY]
    exact ⟨hr.hd, by have := hr.dp; show X.A.depth + 1 + 3 * k + 5 < _; omega, by have := hr.un; show X.A.units + 1 + 1 + 3 + 16 * k + 200 < _; omega⟩
  have fY : AY.frames = some (gEnv X scope s4.heap.objs.size cv :: X.stack) := by
    rw [← hAY]; exact Around.frames_deeper I.ok.frames
  have I5a := gen_start (AY := AY) (fp := fp) (t' := s4.toks) (g' := s4.gens) (h' := h') (code := cv) I4 ok hN f4 rfl S.cell rY.hd fY hns kp1 I4.bare
  have I5 := gen_start (AY := AY) (fp := fp) (t' := s4.toks + 1 + 1 + 1) (g' := s4.gens.push (.fresh (.compStart (.GeneratorExp elt [⟨tg, iter, ifs, 0⟩] scope gpos) 0 (.ref it) .none (gEnv X scope s4.heap.objs.size cv)))) (h' := h'.push { cls := .type "generator", data := .fields #[.int s4.gens.size 0, .str "<genexpr>" (s4.toks + 1), .str (X.env.qual ++ "<genexpr>") (s4.toks + 1 + 1)] }) (code := cv) I4 ok hN f4 rfl S.cell rY.hd fY (hns.push _) (fun b o e => Heap.get?_push_of_some _ (kp1 b o e)) (I4.bare.push rfl)
  refine hQ (genCx X AY s4 H2 (gEnv X scope s4.heap.objs.size cv) fp) J fp tn h'.objs.size s4.gens.size H2 _ q2 ⟨I5, ⟨_, _, _, Heap.get?_push_size _ rfl, rfl, rfl, rfl⟩, Tn.keep _ _ _ st4 fun b hb o e => Heap.get?_push_of_some _ (kp1 b o e), Tn.keep, fun b hb => (f4 b hb).1.1, fun b hb => ?_, ?_, Heap.size_push .., ⟨_, Heap.get?_push_size _ rfl, fun v z => by cases z⟩, ?_, rfl, rfl, ?_⟩
  · rw [sz1]; exact Nat.lt_succ_of_lt (f4 b hb).2
  · exact I5a.fpOk (Nat.le_refl _) (I4.hok.fresh (by rw [sz1]; exact Nat.le_succ _))
  · refine ⟨_, Array.getElem?_push_size .., fun Γ γ n as W Yd End hd G s' I' t' w' => ?_⟩
    refine ⟨rfl, ?_⟩
    exact gen_seg0 (γ := γ) (A := X.A.in1.in1) (Y := genCx X AY s4 H2 (gEnv X scope s4.heap.objs.size cv) fp) (s₀ := s') (by rw [over_gen]; exact hAY) rfl rfl rfl S.co hd Tn rfl (hg AY s4 H2 s4.heap.objs.size cv fp rY) (ht AY s4 H2 s4.heap.objs.size cv fp rY) (he AY s4 H2 s4.heap.objs.size cv fp rY) G I' t' (fun b hb => (f4 b hb).1.1) w'
  · intro pins' σ' H' s' I'
    exact I4.call' (ch := fp) I'.os I'.base I'.hok I'.bare fun b hb => ⟨(f4 b hb).1.2.2.2.1, (f4 b hb).1.2.1, (f4 b hb).1.2.2.2.2.1, (f4 b hb).1.2.2.2.2.2⟩
end
end DL

/-! any, all, sum of a generator expression -/
namespace DL
open PySem PySem.Spec L2
section
variable {X : Cx} {N : Nm} {E : XK}
/-- all that a generator expression asks -/
structure Gx (X : Cx) (T : List (Addr × Str)) (k : Nat) (elt tg iter : Expr) (ifs : List Expr) (scope : Scope) (own : List (Str × Nat)) (wi : TI) (g : TG) (tt : TT) (te : TE) : Prop where
  hr : Room (k + 1) X.A
  hN : X.N.Nodup
  code : ∃ c P, LamX.TabB X.base X.mg c P ∧ X.env.code = .ref c ∧ (P, X.env.qual ++ "<genexpr>") ∈ T ∧ ∀ p ∈ T, p.1 = P → p.2 = X.env.qual ++ "<genexpr>"
  sc : GenSc scope
  hi : PI X tg iter wi
  ok : BlkOk X.N X.env.scope scope own
  hg : ∀ (AY : Around) (s : Shared) (H : Hp) (L : Addr) (code : Value) (fp : List Addr), Room k AY → PG (genCx X AY s H (gEnv X scope L code) fp) tg g
  ht : ∀ (AY : Around) (s : Shared) (H : Hp) (L : Addr) (code : Value) (fp : List Addr), Room k AY → PTs (genCx X AY s H (gEnv X scope L code) fp) ifs tt
  he : ∀ (AY : Around) (s : Shared) (H : Hp) (L : Addr) (code : Value) (fp : List Addr), Room k AY → PE (genCx X AY s H (gEnv X scope L code) fp) elt te
  hs : ∀ v, genFold iter X.env v = pure v
variable {T : List (Addr × Str)} {k : Nat} {elt tg iter : Expr} {ifs : List Expr} {scope : Scope} {own : List (Str × Nat)} {wi : TI} {g : TG} {tt : TT} {te : TE}
theorem Mk.at {pins : List (Addr × Obj)} {σ : L2.St} {vs : List Nat} {Y : Cx} {J : It} {fp : List Addr} {tn : Nat → Heap → Prop} {a : Addr} {gi : Nat} {H2 : Hp} {s5 : Shared} (M : Mk X pins σ g tt te vs Y J fp tn a gi H2 s5)
    {Γ : Type} {γ : Heap → Γ} {n : Nat} {W : Nat → Γ → Hp → Prop} {Yd : Nat → Γ → V → Hp → Prop} {End : Γ → Hp → Prop} (G : GStep n J g tt te vs (wipe σ vs) W Yd End) : GAt γ Y X.A.in1 n [a] fp (wipe σ vs) tn W Yd End a gi 0 (n + 1) H2 s5 := by
  obtain ⟨gs, hgs, rest⟩ := M.gst
  have ia : Inv Y ([] ++ pinsAt [a] s5.heap) (wipe σ vs) H2 s5 := M.inv.pinned (fun b hb => by rw [List.mem_singleton.mp hb]; exact M.fpa) fun b hb => by rw [List.mem_singleton.mp hb]; exact M.obj
  refine ⟨M.isg, ia, M.tn0, M.fpn, fun b hb => ?_, gs, hgs, by omega, rest Γ γ n [a] W Yd End (fun b hb z => ?_) G⟩
  · rw [List.mem_singleton.mp hb]; obtain ⟨o, e, _⟩ := M.obj; exact ⟨o, e⟩
  · have := M.fpl b hb
    rw [List.mem_singleton.mp z] at this
    exact Nat.lt_irrefl _ this
/-- any (p = true), all (p = false) -/
def tQst (p : Bool) (T : List (Addr × Str)) (wi : TI) (g : TG) (tt : TT) (te : TE) (vs : List Nat) : TE := fun σ H Q => wi σ H fun J H1 => LamX.Tabs T H1 ∧ ∀ H2, LamX.ExtN H1 H2 → LamX.Tabs T H2 →
  ∃ (n : Nat) (W : Nat → Unit → Hp → Prop) (Yd : Nat → Unit → V → Hp → Prop) (End : Unit → Hp → Prop), GStep n J g tt te vs (wipe σ vs) W Yd End ∧ W 0 () H2 ∧ (∀ i y H, Yd i () y H → ∃ b, y = .bl b ∧ (b = p → Q (.bl p) H) ∧ (b = !p → W (i + 1) () H)) ∧ ∀ H, End () H → Q (.bl !p) H
def tSumG (T : List (Addr × Str)) (wi : TI) (g : TG) (tt : TT) (te : TE) (vs : List Nat) : TE := fun σ H Q => wi σ H fun J H1 => LamX.Tabs T H1 ∧ ∀ H2, LamX.ExtN H1 H2 → LamX.Tabs T H2 →
  ∃ (n : Nat) (W : Nat → Int → Hp → Prop) (Yd : Nat → Int → V → Hp → Prop) (End : Int → Hp → Prop), GStep n J g tt te vs (wipe σ vs) W Yd End ∧ W 0 0 H2 ∧ (∀ i z y H, Yd i z y H → ∃ v, y = .int v ∧ InLong v ∧ InLong (z + v) ∧ W (i + 1) (z + v) H) ∧ ∀ z H, End z H → Q (.int z) H
theorem pe_gany {p pos gpos : Pos} (hg : Gl X "any") (hm : X.mg "any" = none) (G : Gx X T k elt tg iter ifs scope own wi g tt te)
    (he : starEach [.GeneratorExp elt [⟨tg, iter, ifs, 0⟩] scope gpos] X.env = (false, eval (.GeneratorExp elt [⟨tg, iter, ifs, 0⟩] scope gpos) X.env) :: starEach [] X.env := by rfl) :
    PE X (.Call (.Name "any" p) [.GeneratorExp elt [⟨tg, iter, ifs, 0⟩] scope gpos] [] pos) (tQst true T wi g tt te (own.map (·.2))) := by
  refine ⟨fun pins s σ H Q I h => ?_⟩
  refine wpAny_Call_Name_kw (ld_blt I hg hm PyProof.Rows.boot_any ?_)
  refine PyProof.Rows.callWith_builtin1 ?_ he (by rfl)
  rw [he]
  show wpAny _ _ (spliced ((false, eval (.GeneratorExp elt [⟨tg, iter, ifs, 0⟩] scope gpos) X.env) :: backTo pos (starEach [] X.env))) _ _ s
  obtain ⟨c, P, TB, hcode, hmT, hu⟩ := G.code
  refine Calls.spliced_cons (gen_made (R := fun J H2 => ∃ (n : Nat) (W : Nat → Unit → Hp → Prop) (Yd : Nat → Unit → V → Hp → Prop) (End : Unit → Hp → Prop), GStep n J g tt te (own.map (·.2)) (wipe σ (own.map (·.2))) W Yd End ∧ W 0 () H2 ∧ (∀ i y H, Yd i () y H → ∃ b, y = .bl b ∧ (b = true → Q (.bl true) H) ∧ (b = !true → W (i + 1) () H)) ∧ ∀ H, End () H → Q (.bl !true) H)
    G.hr G.hN TB hcode hmT hu G.sc G.hi G.ok G.hg G.ht G.he G.hs I h fun Y J fp tn a gi H2 s5 hR M => ?_)
  obtain ⟨n, W, Yd, End, GS, w0, hY, hE⟩ := hR
  refine Calls.spliced_nil ?_
  refine call_function_tree F.kind_any F.plain_any F.entry_any (F.args_any1 _) ?_
  unfold Builtin.«any»
  refine wpAny_bind (m := oneArg "any" _) (wpAny_pure ?_)
  refine wpAny_bind (wpAny_pyIter_gen M.isg ?_)
  refine wpAny_pure ⟨plainId_quiet F.plain_any_loop _, ?_⟩
  rw [← M.prog, ← M.w]
  exact any_loop (γ := fun _ => ()) (A := X.A) (as := [a]) (Fin := fun b H => Q (.bl b) H) G.hr.hd (by have := G.hr.dp; show X.A.depth < _; omega) (List.mem_singleton.mpr rfl) (fun i h h' y H yd => hY i y H yd) (fun h H en => hE H en) (fun b H' s' pins' I' f => ⟨.bl b, H', M.back _ _ _ _ I', rfl, f⟩) (n + 1) 0 H2 s5 (M.at GS) w0
theorem pe_gall {p pos gpos : Pos} (hg : Gl X "all") (hm : X.mg "all" = none) (hb : bootBuiltins "all" = some (.builtin "all")) (G : Gx X T k elt tg iter ifs scope own wi g tt te)
    (he : starEach [.GeneratorExp elt [⟨tg, iter, ifs, 0⟩] scope gpos] X.env = (false, eval (.GeneratorExp elt [⟨tg, iter, ifs, 0⟩] scope gpos) X.env) :: starEach [] X.env := by rfl) :
    PE X (.Call (.Name "all" p) [.GeneratorExp elt [⟨tg, iter, ifs, 0⟩] scope gpos] [] pos) (tQst false T wi g tt te (own.map (·.2))) := by
  refine ⟨fun pins s σ H Q I h => ?_⟩
  refine wpAny_Call_Name_kw (ld_blt I hg hm hb ?_)
  refine PyProof.Rows.callWith_builtin1 ?_ he (by rfl)
  rw [he]
  show wpAny _ _ (spliced ((false, eval (.GeneratorExp elt [⟨tg, iter, ifs, 0⟩] scope gpos) X.env) :: backTo pos (starEach [] X.env))) _ _ s
  obtain ⟨c, P, TB, hcode, hmT, hu⟩ := G.code
  refine Calls.spliced_cons (gen_made (R := fun J H2 => ∃ (n : Nat) (W : Nat → Unit → Hp → Prop) (Yd : Nat → Unit → V → Hp → Prop) (End : Unit → Hp → Prop), GStep n J g tt te (own.map (·.2)) (wipe σ (own.map (·.2))) W Yd End ∧ W 0 () H2 ∧ (∀ i y H, Yd i () y H → ∃ b, y = .bl b ∧ (b = false → Q (.bl false) H) ∧ (b = !false → W (i + 1) () H)) ∧ ∀ H, End () H → Q (.bl !false) H)
    G.hr G.hN TB hcode hmT hu G.sc G.hi G.ok G.hg G.ht G.he G.hs I h fun Y J fp tn a gi H2 s5 hR M => ?_)
  obtain ⟨n, W, Yd, End, GS, w0, hY, hE⟩ := hR
  refine Calls.spliced_nil ?_
  refine call_function_tree F.kind_all F.plain_all F.entry_all (F.args_all1 _) ?_
  unfold Builtin.«all»
  refine wpAny_bind (m := oneArg "all" _) (wpAny_pure ?_)
  refine wpAny_bind (wpAny_pyIter_gen M.isg ?_)
  refine wpAny_pure ⟨plainId_quiet F.plain_all_loop _, ?_⟩
  rw [← M.prog, ← M.w]
  exact all_loop (γ := fun _ => ()) (A := X.A) (as := [a]) (Fin := fun b H => Q (.bl b) H) G.hr.hd (by have := G.hr.dp; show X.A.depth < _; omega) (List.mem_singleton.mpr rfl) (fun i h h' y H yd => hY i y H yd) (fun h H en => hE H en) (fun b H' s' pins' I' f => ⟨.bl b, H', M.back _ _ _ _ I', rfl, f⟩) (n + 1) 0 H2 s5 (M.at GS) w0
theorem pe_gsum {p pos gpos : Pos} (hg : Gl X "sum") (hm : X.mg "sum" = none) (hb : bootBuiltins "sum" = some (.builtin "sum")) (G : Gx X T k elt tg iter ifs scope own wi g tt te)
    (he : starEach [.GeneratorExp elt [⟨tg, iter, ifs, 0⟩] scope gpos] X.env = (false, eval (.GeneratorExp elt [⟨tg, iter, ifs, 0⟩] scope gpos) X.env) :: starEach [] X.env := by rfl) :
    PE X (.Call (.Name "sum" p) [.GeneratorExp elt [⟨tg, iter, ifs, 0⟩] scope gpos] [] pos) (tSumG T wi g tt te (own.map (·.2))) := by
  refine ⟨fun pins s σ H Q I h => ?_⟩
  refine wpAny_Call_Name_kw (ld_blt I hg hm hb ?_)
  refine PyProof.Rows.callWith_builtin1 ?_ he (by rfl)
  rw [he]
  show wpAny _ _ (spliced ((false, eval (.GeneratorExp elt [⟨tg, iter, ifs, 0⟩] scope gpos) X.env) :: backTo pos (starEach [] X.env))) _ _ s
  obtain ⟨c, P, TB, hcode, hmT, hu⟩ := G.code
  refine Calls.spliced_cons (gen_made (R := fun J H2 => ∃ (n : Nat) (W : Nat → Int → Hp → Prop) (Yd : Nat → Int → V → Hp → Prop) (End : Int → Hp → Prop), GStep n J g tt te (own.map (·.2)) (wipe σ (own.map (·.2))) W Yd End ∧ W 0 0 H2 ∧ (∀ i z y H, Yd i z y H → ∃ v, y = .int v ∧ InLong v ∧ InLong (z + v) ∧ W (i + 1) (z + v) H) ∧ ∀ z H, End z H → Q (.int z) H)
    G.hr G.hN TB hcode hmT hu G.sc G.hi G.ok G.hg G.ht G.he G.hs I h fun Y J fp tn a gi H2 s5 hR M => ?_)
  obtain ⟨n, W, Yd, End, GS, w0, hY, hE⟩ := hR
  refine Calls.spliced_nil ?_
  refine call_function_tree F.kind_sum F.plain_sum F.entry_sum (F.args_sum1 _) ?_
  unfold Builtin.«sum»
  simp only [List.length_cons, List.length_nil]
  rw [if_neg (by decide)]
  refine wpAny_bind (wpAny_of_eq (show Builtin.Builtins.bindParams "sum" ["start"] 0 { } = pure [none] from rfl) ?_)
  refine wpAny_bind (wpAny_pyIter_gen M.isg ?_)
  refine wpAny_bind (wpAny_mkInt ?_)
  refine wpAny_bind (wpAny_pure ?_)
  simp only [List.forIn_cons, List.forIn_nil]
  refine wpAny_bind (wpAny_bind (wpAny_bind (wpAny_isInstance (T := "int") (b := false) (typeIs_int _ _ _) sub_int_str ?_)))
  simp only [Bool.false_eq_true, if_false]
  refine wpAny_pure (wpAny_bind (wpAny_bind (wpAny_isInstance (T := "int") (b := false) (typeIs_int _ _ _) sub_int_bytes ?_)))
  simp only [Bool.false_eq_true, if_false]
  refine wpAny_pure (wpAny_bind (wpAny_bind (wpAny_isInstance (T := "int") (b := false) (typeIs_int _ _ _) sub_int_bytearray ?_)))
  simp only [Bool.false_eq_true, if_false]
  refine wpAny_pure (wpAny_pure ?_)
  refine wpAny_bind (wpAny_newObj_type ?_)
  refine wpAny_pure ⟨plainId_quiet F.plain_sum_loop _, ?_⟩
  rw [← M.prog, ← M.w]
  have hS0 : s5.heap.objs.size = a + 1 := M.sz
  obtain ⟨gs, hgs, rest⟩ := M.gst
  obtain ⟨og, eg, dg⟩ := M.obj
  have hst : ∀ b ∈ [a, s5.heap.objs.size], ∃ H0, FpOk Y [] H0 b := fun b hb => by
    rcases List.mem_cons.mp hb with z | z
    · rw [z]; exact ⟨_, M.fpa⟩
    · rw [List.mem_singleton.mp z]; exact ⟨H2, M.inv.fpOk (Nat.le_refl _) (M.inv.hok.fresh (Nat.le_refl _))⟩
  have hfp : ∀ b ∈ fp, b ∉ [a, s5.heap.objs.size] := fun b hb z => by
    have := M.fpl b hb
    rcases List.mem_cons.mp z with z | z
    · rw [z] at this; exact Nat.lt_irrefl _ this
    · rw [List.mem_singleton.mp z, hS0] at this; exact Nat.not_lt_of_le (Nat.le_succ _) this
  refine sum_loop (A := X.A) (n := n) (σw := wipe σ (own.map (fun x => x.2))) (as := [a, s5.heap.objs.size]) (S := s5.heap.objs.size) (a := a) (gi := gi) (Fin := fun z H => Q (.int z) H) G.hr.hd (by have := G.hr.dp; show X.A.depth < _; omega) (by simp) (by simp) (fun z => Nat.succ_ne_self _ (hS0.symm.trans z)) (fun z => hfp _ z (by simp)) hst M.keep hY hE (fun z t H' s' pins' I' f => ⟨.int z, H', M.back _ _ _ _ I', ⟨t, rfl⟩, f⟩) (n + 1) 0 H2 _ 0 s5.toks 0 ?_ (Heap.get?_push_size _ rfl) w0
  have kp : ∀ b o, s5.heap.get? b = some o → (s5.heap.push { cls := .type "list", data := .seq #[.int 0 s5.toks] }).get? b = some o := fun b o e => Heap.get?_push_of_some _ e
  have I6 : Inv Y [] (wipe σ (own.map (·.2))) H2 { s5 with heap := s5.heap.push { cls := .type "list", data := .seq #[.int 0 s5.toks] }, toks := s5.toks + 1 } := M.inv.kept kp
  obtain ⟨o, nm, qn, ho, r⟩ := M.isg
  have I7 := I6.pinned (pins := []) (fp := [a, s5.heap.objs.size]) (fun b hb => by
    obtain ⟨H0, f0, fr⟩ := hst b hb
    refine ⟨?_, fr⟩
    rcases List.mem_cons.mp hb with z | z
    · rw [z]; exact M.fpa.1
    · rw [List.mem_singleton.mp z]; exact M.inv.hok.fresh (Nat.le_refl _)) (fun b hb => by
    rcases List.mem_cons.mp hb with z | z
    · rw [z]; exact ⟨og, kp a og eg, dg⟩
    · rw [List.mem_singleton.mp z]; exact ⟨_, Heap.get?_push_size _ rfl, fun v z => by cases z⟩)
  refine ⟨⟨o, nm, qn, kp a o ho, r⟩, I7, M.keep _ _ _ M.tn0 fun b hb o e => kp b o e, M.fpn, fun b hb => ?_, gs, hgs, by omega, rest Int _ n _ W Yd End hfp GS⟩
  rcases List.mem_cons.mp hb with z | z
  · rw [z]; exact ⟨og, kp a og eg⟩
  · rw [List.mem_singleton.mp z]; exact ⟨_, Heap.get?_push_size _ rfl⟩
end
end DL

/-! any, all, sum: the readings -/
namespace DL
open PySem PySem.Spec L2
def qstD (p : Bool) (g : CG) (t : CT) (e : CE) (σ : SD) (k : Bool → Hd → Bool) : List D → Hd → Bool
  | [], η => k (!p) η
  | d :: ds, η => g d σ η (fun σ1 η1 => t σ1 η1 (fun b η2 => match b with
    | true => e σ1 η2 (fun y η3 => match y with
      | .bl c => match Bool.xor c p with
        | true => qstD p g t e σ k ds η3
        | false => k p η3
      | _ => false) kF
    | false => qstD p g t e σ k ds η2) kF) kF
def cQst (p : Bool) (i : CI) (g : CG) (t : CT) (e : CE) (vs : List Nat) : CE := fun σ η kv kx => i σ η (fun it η1 => qstD p g t e (wipeD σ vs) (fun b η2 => kv (.bl b) (it.un η2)) it.l (it.fr η1)) kx
def sumD (g : CG) (t : CT) (e : CE) (σ : SD) (k : Int → Hd → Bool) : List D → Int → Hd → Bool
  | [], z, η => k z η
  | d :: ds, z, η => g d σ η (fun σ1 η1 => t σ1 η1 (fun b η2 => match b with
    | true => e σ1 η2 (fun y η3 => match y with
      | .int v => match rOk v, rOk (z + v) with
        | true, true => sumD g t e σ k ds (z + v) η3
        | _, _ => false
      | _ => false) kF
    | false => sumD g t e σ k ds z η2) kF) kF
def cSumG (i : CI) (g : CG) (t : CT) (e : CE) (vs : List Nat) : CE := fun σ η kv kx => i σ η (fun it η1 => sumD g t e (wipeD σ vs) (fun z η2 => kv (.int z) (it.un η2)) it.l 0 (it.fr η1)) kx
theorem rOk_long {i : Int} (h : rOk i = true) : InLong i := by
  obtain ⟨h1, h2⟩ := rOk_ok h
  exact ⟨by omega, by omega⟩
section
variable {X : Cx} {N : Nm} {E : XK}
/-- the world ahead of the walk, when the table has grown -/
theorem grown_walk {K : PySem.W.Frag} {W1 : Wl} {it : Its} {H2 : Hp} (o1 : W1.Ok K N.toNames) (fz : FzOk W1 it) (x2 : LamX.ExtN W1.H H2) (t2 : LamX.Tabs N.tabs H2) :
    Ext (it.w W1) ⟨W1.μ, it.fr W1.η, H2⟩ ∧ Wl.Ok K N.toNames ⟨W1.μ, it.fr W1.η, H2⟩ := by
  obtain ⟨xf, of⟩ := Its.froze o1 fz
  exact of.grown x2 t2
theorem qst_of {E' : XK} {K : PySem.W.Frag} {p : Bool} {ci : CI} {g : CG} {t : CT} {e : CE} {vs : List Nat} {σ : St} {H : Hp} {Q : VK} (h : tE K N E (cQst p ci g t e vs) σ H Q) : tQst p N.tabs (tI K N E ci) (tGw K N vs g) (tT K N E' t) (tE K N E' e) vs σ H Q := by
  obtain ⟨W, σd, kv, kx, rfl, o, s, h, hv, hx⟩ := h
  refine ⟨W, σd, _, kx, rfl, o, s, h, fun W1 it J x1 o1 fz wk h1 => ⟨o1.tab, fun H2 x2 t2 => ?_⟩, hx⟩
  obtain ⟨xf, of⟩ := Its.froze o1 fz
  obtain ⟨xs, os⟩ := grown_walk o1 fz x2 t2
  have s0 : RelS (it.w W1) (wipeD σd vs) (wipe σ vs) := ((s.mono o x1).mono o1 xf).wipe vs
  have fin : ∀ (W2 : Wl) (b : Bool), Ext (it.w W1) W2 → W2.Ok K N.toNames → kv (.bl b) (it.un W2.η) = true → Q (.bl b) W2.H := fun W2 b x o2 hb => by
    obtain ⟨xt, ot⟩ := Its.thaw o1 fz x o2
    exact hv ⟨W2.μ, it.un W2.η, W2.H⟩ (.bl b) (.bl b) (x1.trans o o1 xt) ot (by rw [RelD]) hb
  refine ⟨it.l.length, fun i _ H => i ≤ it.l.length ∧ ∃ W2, W2.H = H ∧ Ext (it.w W1) W2 ∧ W2.Ok K N.toNames ∧ qstD p g t e (wipeD σd vs) (fun b η2 => kv (.bl b) (it.un η2)) (it.l.drop i) W2.η = true,
    fun i _ y H => i < it.l.length ∧ ∃ W2 c, W2.H = H ∧ y = .bl c ∧ Ext (it.w W1) W2 ∧ W2.Ok K N.toNames ∧ (match Bool.xor c p with
      | true => qstD p g t e (wipeD σd vs) (fun b η2 => kv (.bl b) (it.un η2)) (it.l.drop (i + 1)) W2.η
      | false => kv (.bl p) (it.un W2.η)) = true,
    fun _ H => ∃ W2, W2.H = H ∧ Ext (it.w W1) W2 ∧ W2.Ok K N.toNames ∧ kv (.bl !p) (it.un W2.η) = true, ⟨?_, ?_⟩, ⟨Nat.zero_le _, _, rfl, xs, os, h1⟩, ?_, ?_⟩
  · rintro _ i H hlt ⟨hi, W2, rfl, xw, o2, h2⟩
    have s2 : RelS W2 (wipeD σd vs) (wipe σ vs) := s0.mono of xw
    refine ⟨wk.go W2 i (xw.sty of) o2 hlt, fun y H3 hy => ?_⟩
    obtain ⟨W3, d, e3, x3, o3, eH, eη, r3⟩ := wk.yld W2 i y H3 (xw.sty of) o2 hlt hy
    subst eH
    have ed : it.l.drop i = d :: it.l.drop (i + 1) := by
      rw [List.drop_eq_getElem_cons hlt]
      have : it.l[i] = d := by
        have := List.getElem?_eq_getElem hlt
        rw [this] at e3; exact Option.some.inj e3
      rw [this]
    rw [ed] at h2
    refine ⟨W3, d, wipeD σd vs, _, rfl, o3, r3, s2.mono o2 x3, (by rw [eη]; exact h2), fun W4 σd4 σ4 x4 o4 s4 w4 h4 => ⟨w4.trans (wipe_wipe vs σ), ?_⟩⟩
    refine tT.bind (kx := kF) o4 s4 Xk.never h4 fun W5 b x5 o5 s5 hx5 h5 => ?_
    have x25 : Ext (it.w W1) W5 := xw.trans of o2 (x3.trans o2 o3 (x4.trans o3 o4 x5))
    cases b with
    | true =>
      rw [if_pos rfl]
      refine tE.bind (kx := kF) o5 s5 Xk.never h5 fun W6 dy vy x6 o6 r6 s6 hx6 h6 => ?_
      cases dy with
      | bl c =>
        rw [RelD] at r6
        exact ⟨hlt, W6, c, rfl, r6, x25.trans of o5 x6, o6, h6⟩
      | _ => cases h6
    | false =>
      rw [if_neg (by decide)]
      exact ⟨hlt, W5, rfl, x25, o5, h5⟩
  · rintro _ H ⟨hi, W2, rfl, xw, o2, h2⟩
    rw [List.drop_length] at h2
    exact ⟨wk.stop W2 (xw.sty of) o2, W2, rfl, xw, o2, h2⟩
  · rintro i y H ⟨hlt, W2, c, rfl, rfl, xw, o2, h2⟩
    refine ⟨c, rfl, fun ec => ?_, fun ec => ?_⟩
    · subst ec
      rw [Bool.xor_self] at h2
      exact fin W2 _ xw o2 h2
    · subst ec
      have e : Bool.xor (!p) p = true := by cases p <;> rfl
      rw [e] at h2
      exact ⟨hlt, W2, rfl, xw, o2, h2⟩
  · rintro H ⟨W2, rfl, xw, o2, h2⟩
    exact fin W2 _ xw o2 h2
theorem sum_of {E' : XK} {K : PySem.W.Frag} {ci : CI} {g : CG} {t : CT} {e : CE} {vs : List Nat} {σ : St} {H : Hp} {Q : VK} (h : tE K N E (cSumG ci g t e vs) σ H Q) : tSumG N.tabs (tI K N E ci) (tGw K N vs g) (tT K N E' t) (tE K N E' e) vs σ H Q := by
  obtain ⟨W, σd, kv, kx, rfl, o, s, h, hv, hx⟩ := h
  refine ⟨W, σd, _, kx, rfl, o, s, h, fun W1 it J x1 o1 fz wk h1 => ⟨o1.tab, fun H2 x2 t2 => ?_⟩, hx⟩
  obtain ⟨xf, of⟩ := Its.froze o1 fz
  obtain ⟨xs, os⟩ := grown_walk o1 fz x2 t2
  have s0 : RelS (it.w W1) (wipeD σd vs) (wipe σ vs) := ((s.mono o x1).mono o1 xf).wipe vs
  have fin : ∀ (W2 : Wl) (b : Int), Ext (it.w W1) W2 → W2.Ok K N.toNames → kv (.int b) (it.un W2.η) = true → Q (.int b) W2.H := fun W2 b x o2 hb => by
    obtain ⟨xt, ot⟩ := Its.thaw o1 fz x o2
    exact hv ⟨W2.μ, it.un W2.η, W2.H⟩ (.int b) (.int b) (x1.trans o o1 xt) ot (by rw [RelD]) hb
  refine ⟨it.l.length, fun i z H => i ≤ it.l.length ∧ ∃ W2, W2.H = H ∧ Ext (it.w W1) W2 ∧ W2.Ok K N.toNames ∧ sumD g t e (wipeD σd vs) (fun b η2 => kv (.int b) (it.un η2)) (it.l.drop i) z W2.η = true,
    fun i z y H => i < it.l.length ∧ ∃ W2 v, W2.H = H ∧ y = .int v ∧ Ext (it.w W1) W2 ∧ W2.Ok K N.toNames ∧ (match rOk v, rOk (z + v) with
      | true, true => sumD g t e (wipeD σd vs) (fun b η2 => kv (.int b) (it.un η2)) (it.l.drop (i + 1)) (z + v) W2.η
      | _, _ => false) = true,
    fun z H => ∃ W2, W2.H = H ∧ Ext (it.w W1) W2 ∧ W2.Ok K N.toNames ∧ kv (.int z) (it.un W2.η) = true, ⟨?_, ?_⟩, ⟨Nat.zero_le _, _, rfl, xs, os, h1⟩, ?_, ?_⟩
  · rintro z i H hlt ⟨hi, W2, rfl, xw, o2, h2⟩
    have s2 : RelS W2 (wipeD σd vs) (wipe σ vs) := s0.mono of xw
    refine ⟨wk.go W2 i (xw.sty of) o2 hlt, fun y H3 hy => ?_⟩
    obtain ⟨W3, d, e3, x3, o3, eH, eη, r3⟩ := wk.yld W2 i y H3 (xw.sty of) o2 hlt hy
    subst eH
    have ed : it.l.drop i = d :: it.l.drop (i + 1) := by
      rw [List.drop_eq_getElem_cons hlt]
      have : it.l[i] = d := by
        have := List.getElem?_eq_getElem hlt
        rw [this] at e3; exact Option.some.inj e3
      rw [this]
    rw [ed] at h2
    refine ⟨W3, d, wipeD σd vs, _, rfl, o3, r3, s2.mono o2 x3, (by rw [eη]; exact h2), fun W4 σd4 σ4 x4 o4 s4 w4 h4 => ⟨w4.trans (wipe_wipe vs σ), ?_⟩⟩
    refine tT.bind (kx := kF) o4 s4 Xk.never h4 fun W5 b x5 o5 s5 hx5 h5 => ?_
    have x25 : Ext (it.w W1) W5 := xw.trans of o2 (x3.trans o2 o3 (x4.trans o3 o4 x5))
    cases b with
    | true =>
      rw [if_pos rfl]
      refine tE.bind (kx := kF) o5 s5 Xk.never h5 fun W6 dy vy x6 o6 r6 s6 hx6 h6 => ?_
      cases dy with
      | int c =>
        rw [RelD] at r6
        exact ⟨hlt, W6, c, rfl, r6, x25.trans of o5 x6, o6, h6⟩
      | _ => cases h6
    | false =>
      rw [if_neg (by decide)]
      exact ⟨hlt, W5, rfl, x25, o5, h5⟩
  · rintro z H ⟨hi, W2, rfl, xw, o2, h2⟩
    rw [List.drop_length] at h2
    exact ⟨wk.stop W2 (xw.sty of) o2, W2, rfl, xw, o2, h2⟩
  · rintro i z y H ⟨hlt, W2, v, rfl, rfl, xw, o2, h2⟩
    cases e1 : rOk v with
    | false => rw [e1] at h2; cases h2
    | true =>
      cases e2 : rOk (z + v) with
      | false => rw [e1, e2] at h2; cases h2
      | true =>
        rw [e1, e2] at h2
        exact ⟨v, rfl, rOk_long e1, rOk_long e2, hlt, W2, rfl, xw, o2, h2⟩
  · rintro z H ⟨W2, rfl, xw, o2, h2⟩
    exact fin W2 _ xw o2 h2
/-- what a generator expression asks, by readings -/
structure GxD (X : Cx) (N : Nm) (E E' : XK) (k : Nat) (elt tg iter : Expr) (ifs : List Expr) (scope : Scope) (own : List (Str × Nat)) (ci : CI) (g : CG) (t : CT) (e : CE) : Prop where
  hr : Room (k + 1) X.A
  hN : X.N.Nodup
  code : ∃ c P, LamX.TabB X.base X.mg c P ∧ X.env.code = .ref c ∧ (P, X.env.qual ++ "<genexpr>") ∈ N.tabs ∧ ∀ p ∈ N.tabs, p.1 = P → p.2 = X.env.qual ++ "<genexpr>"
  sc : genScB scope = true
  hi : JI X N E tg iter ci
  ok : BlkOk X.N X.env.scope scope own
  hg : ∀ (AY : Around) (s : Shared) (H : Hp) (L : Addr) (code : Value) (fp : List Addr), Room k AY → JGw (genCx X AY s H (gEnv X scope L code) fp) N (own.map (·.2)) tg g
  ht : ∀ (AY : Around) (s : Shared) (H : Hp) (L : Addr) (code : Value) (fp : List Addr), Room k AY → JTs (genCx X AY s H (gEnv X scope L code) fp) N E' ifs t
  he : ∀ (AY : Around) (s : Shared) (H : Hp) (L : Addr) (code : Value) (fp : List Addr), Room k AY → JE (genCx X AY s H (gEnv X scope L code) fp) N E' elt e
  hs : ∀ v, genFold iter X.env v = pure v
variable {E' : XK} {k : Nat} {elt tg iter : Expr} {ifs : List Expr} {scope : Scope} {own : List (Str × Nat)} {ci : CI} {g : CG} {t : CT} {e : CE} {p pos gpos : Pos}
theorem GxD.gx (G : GxD X N E E' k elt tg iter ifs scope own ci g t e) : Gx X N.tabs k elt tg iter ifs scope own (tI X.K N E ci) (tGw X.K N (own.map (·.2)) g) (tT X.K N E' t) (tE X.K N E' e) :=
  ⟨G.hr, G.hN, G.code, genSc_by G.sc, G.hi, G.ok, G.hg, G.ht, G.he, G.hs⟩
theorem je_gany (hg : Gl X "any") (hm : X.mg "any" = none) (G : GxD X N E E' k elt tg iter ifs scope own ci g t e)
    (he : starEach [.GeneratorExp elt [⟨tg, iter, ifs, 0⟩] scope gpos] X.env = (false, eval (.GeneratorExp elt [⟨tg, iter, ifs, 0⟩] scope gpos) X.env) :: starEach [] X.env := by rfl) :
    JE X N E (.Call (.Name "any" p) [.GeneratorExp elt [⟨tg, iter, ifs, 0⟩] scope gpos] [] pos) (cQst true ci g t e (own.map (·.2))) := PE.imp (pe_gany hg hm G.gx he) fun σ H Q q => qst_of q
theorem je_gall (hg : Gl X "all") (hm : X.mg "all" = none) (G : GxD X N E E' k elt tg iter ifs scope own ci g t e)
    (he : starEach [.GeneratorExp elt [⟨tg, iter, ifs, 0⟩] scope gpos] X.env = (false, eval (.GeneratorExp elt [⟨tg, iter, ifs, 0⟩] scope gpos) X.env) :: starEach [] X.env := by rfl) :
    JE X N E (.Call (.Name "all" p) [.GeneratorExp elt [⟨tg, iter, ifs, 0⟩] scope gpos] [] pos) (cQst false ci g t e (own.map (·.2))) := PE.imp (pe_gall hg hm (by decide +kernel) G.gx he) fun σ H Q q => qst_of q
theorem je_gsum (hg : Gl X "sum") (hm : X.mg "sum" = none) (G : GxD X N E E' k elt tg iter ifs scope own ci g t e)
    (he : starEach [.GeneratorExp elt [⟨tg, iter, ifs, 0⟩] scope gpos] X.env = (false, eval (.GeneratorExp elt [⟨tg, iter, ifs, 0⟩] scope gpos) X.env) :: starEach [] X.env := by rfl) :
    JE X N E (.Call (.Name "sum" p) [.GeneratorExp elt [⟨tg, iter, ifs, 0⟩] scope gpos] [] pos) (cSumG ci g t e (own.map (·.2))) := PE.imp (pe_gsum hg hm (by decide +kernel) G.gx he) fun σ H Q q => sum_of q
end
end DL

/-! sum, min of lists, count, three names at once, o[i] op= e -/
namespace DL
open PySem PySem.Spec L2
section
variable {X : Cx} {N : Nm} {E : XK}
/-! ### sum -/
def sumI : List Int → Int → Int
  | [], z => z
  | i :: l, z => sumI l (z + i)
theorem sumI_eq : ∀ (l : List Int) (z : Int), sumI l z = z + l.sum
  | [], z => by simp [sumI]
  | i :: l, z => by rw [sumI, sumI_eq l (z + i), List.sum_cons]; omega
def gSum (d : D) (η : Hd) : Option (D × Hd) := match d with
  | .ref r => match η.list r with
    | some l => match intsOf l with
      | some ns => some (.int (sumI ns 0), η)
      | none => none
    | none => none
  | _ => none
theorem blt_sum (hc : X.calm = true) : CallR X (.builtin "sum") (rN X.K N (f1 gSum)) := CallR.imp (cr_sum hc) fun xs H Q q => by
  obtain ⟨W, ds, d, η', rfl, o, rs, hf, hq⟩ := q
  obtain ⟨d0, rfl, hg⟩ := f1_inv hf
  obtain ⟨v, rfl, r⟩ := rel1 rs
  cases d0 with
  | ref r0 =>
    simp only [gSum] at hg
    cases e : W.η.list r0 with
    | none => rw [e] at hg; cases hg
    | some l =>
      rw [e] at hg
      simp only at hg
      cases e2 : intsOf l with
      | none => rw [e2] at hg; cases hg
      | some ns =>
        rw [e2] at hg
        simp only [Option.some.injEq, Prod.mk.injEq] at hg
        obtain ⟨rfl, rfl⟩ := hg
        obtain ⟨vs, g1, g2, g3⟩ := list_of o e
        rw [intsOf_eq e2] at g2
        rw [rel_ints g2] at g1
        rw [relRef r]
        have e3 : sumI ns 0 = ns.sum := by rw [sumI_eq]; omega
        rw [e3] at hq
        exact ⟨_, ns, rfl, g1, same_w o hq mkInt⟩
  | _ => cases hg
/-! ### min of a list of rows of ints -/
def minI : List Int → List (List Int) → List Int
  | b, [] => b
  | b, r :: rs => match lexI r b with
    | true => minI r rs
    | false => minI b rs
def bestF (f : Nat → List Int) : Nat → List Int
  | 0 => f 0
  | j + 1 => if lexI (f (j + 1)) (bestF f j) = true then f (j + 1) else bestF f j
theorem best_arg (f : Nat → List Int) : ∀ j, f (argBest (fun i k => lexI (f i) (f k)) j) = bestF f j
  | 0 => rfl
  | j + 1 => by
    have ih := best_arg f j
    unfold argBest bestF
    rw [← ih]
    split <;> rfl
theorem minI_foldl : ∀ (rs : List (List Int)) (b : List Int), minI b rs = rs.foldl (fun b r => if lexI r b = true then r else b) b
  | [], b => rfl
  | r :: rs, b => by
    unfold minI
    cases e : lexI r b with
    | true => simp [List.foldl_cons, e, minI_foldl rs r]
    | false => simp [List.foldl_cons, e, minI_foldl rs b]
theorem best_fold (r : List Int) (rs : List (List Int)) : ∀ m, m ≤ rs.length → bestF (fun i => (r :: rs).getD i []) m = (rs.take m).foldl (fun b r => if lexI r b = true then r else b) r
  | 0, _ => by simp [bestF]
  | m + 1, h => by
    have ih := best_fold r rs m (by omega)
    unfold bestF
    rw [ih]
    have e : rs.take (m + 1) = rs.take m ++ [rs[m]'(by omega)] := by rw [List.take_succ, List.getElem?_eq_getElem (by omega)]; rfl
    rw [e, List.foldl_append]
    have e2 : (r :: rs).getD (m + 1) [] = rs[m]'(by omega) := by simp [List.getD, List.getElem?_eq_getElem (show m < rs.length by omega)]
    show (if lexI ((r :: rs).getD (m + 1) []) _ = true then _ else _) = _
    rw [e2]
    rfl
theorem min_row (r : List Int) (rs : List (List Int)) : (r :: rs).getD (argBest (fun i k => lexI ((r :: rs).getD i []) ((r :: rs).getD k [])) rs.length) [] = minI r rs := by
  have := best_arg (fun i => (r :: rs).getD i []) rs.length
  rw [this, best_fold r rs rs.length (Nat.le_refl _), List.take_length, minI_foldl]
section
variable {prog : Program} {w : World} {A : Around} {R : Result → Shared → Prop} {I : Addr} {fp wr : List Addr} {G : Array GenState → Array GenState → Prop} {n : Nat} {P : Nat → Value → Prop} {St : Nat → Shared → Prop}
theorem min_loopK (W : WalksS prog w A.in1 I fp wr G n P St) (bt : Nat → Nat → Bool) (S : Addr) (hSf : S ∉ fp) (Kp : Shared → Prop) (hK : ∀ s s', Kp s → Moved (S :: wr) G s s' → Kp s')
    (hcmp : ∀ i j vi vj (s : Shared) (Q : Value → Shared → Prop) (E : Value → Shared → Prop), Kp s → P i vi → P j vj → Q (.bool (bt i j)) s → wpAny (model prog w) A.in1 (richCompare .Lt vi vj) Q E s) :
    ∀ (k j : Nat) (s : Shared) (vb : Value) (c : Nat), n - (j + 1) = k → j + 1 ≤ n → Kp s → St (j + 1) s → P (argBest bt j) vb →
    s.heap.get? S = some { cls := .type "list", dict := none, data := .seq #[vb, vb] c, slots := #[] } →
    (∀ v s', P (argBest bt (n - 1)) v → Moved (S :: wr) G s s' → R (.ok (.ret v)) s') → codeAny (model prog w) A (.builtin "min.loop" ⟨[.ref I, .none, .ref S], []⟩) R s := by
  have hSw : S ∉ wr := fun h => hSf (W.sub _ h)
  have hsub : ∀ b ∈ wr, b ∈ S :: wr := fun b hb => List.mem_cons_of_mem _ hb
  have hname : (toString "min" ++ toString ".loop" : String) = "min.loop" := by decide
  have notS : ∀ {b : Addr}, b ∉ S :: wr → S ≠ b := fun hb h => hb (by rw [h]; exact List.mem_cons_self)
  intro k
  induction k with
  | zero =>
    intro j s vb c hk hj hkp hst hPb hS hR
    have hin : j + 1 = n := by omega
    refine codeAny_builtin F.entry_min_loop ?_
    rw [Around.under_plainId F.plain_min_loop _]
    show wpAny _ A.in1 (seqItems? (.ref S) >>= _) _ _ s
    refine wpAny_bind (wpAny_seqItems hS rfl ?_)
    show wpAny _ A.in1 (tryCatch (pyNext (.ref I)) _ >>= _) _ _ s
    refine wpAny_bind (wpAny_tryCatch (W.done s _ _ (hin ▸ hst) fun s' hm => ?_))
    have hS' := hm.heap S _ hSw hS
    show wpAny _ A.in1 (updateSeq S (fun _ => #[]) >>= _) _ _ _
    refine wpAny_bind ?_
    refine wpAny_updateSeq hS' rfl (wpAny_bind (wpAny_letGo (wpAny_pure ?_)))
    exact hR vb _ (by rw [← hin]; exact hPb) ((hm.mono hsub).then_heap (tk := s'.toks) (Nat.le_refl _) fun b o hb e => (Heap.get?_update_other _ _ (notS hb)).trans e)
  | succ k ih =>
    intro j s vb c hk hj hkp hst hPb hS hR
    have hlt : j + 1 < n := by omega
    refine codeAny_builtin F.entry_min_loop ?_
    rw [Around.under_plainId F.plain_min_loop _]
    show wpAny _ A.in1 (seqItems? (.ref S) >>= _) _ _ s
    refine wpAny_bind (wpAny_seqItems hS rfl ?_)
    show wpAny _ A.in1 (tryCatch (pyNext (.ref I)) _ >>= _) _ _ s
    refine wpAny_bind (wpAny_tryCatch (W.item (j + 1) s _ _ hlt hst fun v s' hP hst' hm => ?_))
    have hS' := hm.heap S _ hSw hS
    have hkp' := hK s s' hkp (hm.mono hsub)
    show wpAny _ A.in1 (tryCatch (holding [v, v] (richCompare .Lt v vb >>= _)) _ >>= _) _ _ _
    refine wpAny_bind (wpAny_tryCatch (wpAny_holding (wpAny_bind (hcmp (j + 1) (argBest bt j) v vb _ _ _ hkp' hP hPb ?_))))
    refine wpAny_bind (wpAny_holding (wpAny_truthy_bool ?_))
    refine wpAny_bind (wpAny_letGo (wpAny_pure ?_))
    cases hb : bt (j + 1) (argBest bt j) with
    | true =>
      simp only [if_true]
      refine wpAny_bind ?_
      refine wpAny_updateSeq hS' rfl (wpAny_bind (wpAny_letGo ?_))
      rw [hname]
      have hm2 : Moved (S :: wr) G s { s' with heap := s'.heap.update S (Obj.mapSeq fun _ => #[v, v]) } := (hm.mono hsub).then_heap (by first | exact Nat.le_refl _ | exact Nat.le_succ _ | omega) fun b o hb e => (Heap.get?_update_other _ _ (notS hb)).trans e
      refine wpAny_pure ⟨plainId_quiet F.plain_min_loop _, ih (j + 1) _ v _ (by omega) hlt (hK _ _ hkp hm2) (W.frame _ s' _ s'.toks hst' (Nat.le_refl _) fun b hbf o e => ?_) (by simp only [argBest, hb, if_true]; exact hP) (Heap.get?_update_self _ hS' rfl)
        fun v' s'' hP' hm'' => ?_⟩
      · exact (Heap.get?_update_other _ _ (fun h : S = b => hSf (by rw [h]; exact hbf))).trans e
      · exact hR v' s'' hP' (Moved.trans W.gtrans hm2 hm'')
    | false =>
      simp only [Bool.false_eq_true, if_false]
      refine wpAny_bind (wpAny_letGo ?_)
      rw [hname]
      refine wpAny_pure ⟨plainId_quiet F.plain_min_loop _, ih (j + 1) _ vb c (by omega) hlt hkp' hst' (by simp only [argBest, hb, Bool.false_eq_true, if_false]; exact hPb) hS' fun v' s'' hP' hm'' => ?_⟩
      exact hR v' s'' hP' (Moved.trans W.gtrans (hm.mono hsub) hm'')
end
theorem row_lt {prog : Program} {w : World} {A : Around} {s : Shared} {E : Value → Shared → Prop} {Q : Value → Shared → Prop} {v u : Value} {ns ms : List Int} (hu : A.units < cLine) (hv : IsRow s.heap v ns) (hw : IsRow s.heap u ms) (q : Q (.bool (lexI ns ms)) s) : wpAny (model prog w) A (richCompare .Lt v u) Q E s := by
  obtain ⟨a, o, xs, n, rfl, h1, h2, h3, h4⟩ := hv
  obtain ⟨b, o', ys, n', rfl, h1', h2', h3', h4'⟩ := hw
  have p1 : s.heap.IsTuple a xs.toArray := ⟨o, h1, h2, n, h3⟩
  have p2 : s.heap.IsTuple b ys.toArray := ⟨o', h1', h2', n', h3'⟩
  have i1 : PyProof.Rows.IntsAre xs ns := Vals.ints h4
  have i2 : PyProof.Rows.IntsAre ys ms := Vals.ints h4'
  have e1 : xs.toArray.size = ns.length := by rw [List.size_toArray]; exact i1.length
  have e2 : ys.toArray.size = ms.length := by rw [List.size_toArray]; exact i2.length
  have at1 : ∀ j (h1 : j < xs.toArray.size), ∃ t, xs.toArray[j] = .int (ns.getD j 0) t := fun j h1 => PyProof.Rows.IntsAre.int_at i1 _ _ (by simp at h1; simp [h1])
  have at2 : ∀ j (h1 : j < ys.toArray.size), ∃ t, ys.toArray[j] = .int (ms.getD j 0) t := fun j h1 => PyProof.Rows.IntsAre.int_at i2 _ _ (by simp at h1; simp [h1])
  have Rr := Ob.RcOp.tuples_lt (A := A) (s := s) (e := fun j => decide (ns.getD j 0 = ms.getD j 0)) (r := fun j => decide (ns.getD j 0 < ms.getD j 0)) p1 p2 hu (fun j h1 h2 => by
    obtain ⟨t, et⟩ := at1 j h1
    obtain ⟨t', et'⟩ := at2 j h2
    rw [et, et']
    have z : (ns.getD j 0 == ms.getD j 0) = decide (ns.getD j 0 = ms.getD j 0) := by
      by_cases q : ns.getD j 0 = ms.getD j 0
      · rw [decide_eq_true q]; exact beq_iff_eq.mpr q
      · rw [decide_eq_false q]; exact beq_eq_false_iff_ne.mpr q
    rw [← z]
    exact SeqAt.EqAt.int_int _ _ _ _) (fun j h1 h2 _ => by
    obtain ⟨t, et⟩ := at1 j h1
    obtain ⟨t', et'⟩ := at2 j h2
    rw [et, et']
    exact Ob.RcOp.lt_int _ _ _ _)
  rw [e1, e2] at Rr
  have key : ∀ (ns ms : List Int) (i : Nat) (f g : Nat → Int), (∀ j, f (i + j) = ns.getD j 0) → (∀ j, g (i + j) = ms.getD j 0) →
      Ob.lexAt (fun j => decide (f j = g j)) (fun j => decide (f j < g j)) (decide (ns.length < ms.length)) i (min ns.length ms.length) = lexI ns ms := by
    intro ns
    induction ns with
    | nil =>
      intro ms i f g hf hg
      cases ms with
      | nil => rfl
      | cons m ms => simp [Ob.lexAt, lexI]
    | cons n ns ih =>
      intro ms i f g hf hg
      cases ms with
      | nil => simp [Ob.lexAt, lexI]
      | cons m ms =>
        have e : min (n :: ns).length (m :: ms).length = min ns.length ms.length + 1 := by simp only [List.length_cons]; omega
        rw [e, Ob.lexAt_succ]
        have f0 : f i = n := by have := hf 0; simpa using this
        have g0 : g i = m := by have := hg 0; simpa using this
        have il := ih ms (i + 1) f g (fun j => by have := hf (j + 1); rw [show i + 1 + j = i + (j + 1) by omega, this]; rfl) (fun j => by have := hg (j + 1); rw [show i + 1 + j = i + (j + 1) by omega, this]; rfl)
        by_cases z : n = m
        · subst z
          rw [if_pos (by rw [f0, g0]; simp)]
          rw [show decide ((n :: ns).length < (n :: ms).length) = decide (ns.length < ms.length) by simp]
          rw [il]
          simp [lexI, ieq_self]
        · rw [if_neg (by rw [f0, g0]; simpa using z)]
          simp only [f0, g0, lexI, ieq_false z]
  have ek := key ns ms 0 (fun j => ns.getD j 0) (fun j => ms.getD j 0) (fun j => by rw [Nat.zero_add]) (fun j => by rw [Nat.zero_add])
  rw [ek] at Rr
  exact Rr prog w E Q q
theorem min_rows {prog : Program} {w : World} {A : Around} {E : Value → Shared → Prop} {s : Shared} {l : Addr} {its : List Value} {k : Value → List Int} {Q : Value → Shared → Prop} (hh : A.handled = none) (hu : A.units + 1 < cLine) (hl : s.heap.IsList l its.toArray) (hr : ∀ v ∈ its, IsRow s.heap v (k v)) (hne : 0 < its.length)
    (h : ∀ v h' tk, its[argBest (fun i j => lexI (k (its.getD i .none)) (k (its.getD j .none))) (its.length - 1)]? = some v → (∀ b o, s.heap.get? b = some o → h'.get? b = some o) → Q v { s with heap := h', toks := tk }) :
    wpAny (model prog w) A (call (.builtin "min") [.ref l]) Q E s := by
  have hname : (toString "min" ++ toString ".loop" : String) = "min.loop" := by decide
  have hlt : l < s.heap.objs.size := by obtain ⟨_, e, _⟩ := hl; exact Heap.lt_size e
  refine call_function_tree F.kind_min F.plain_min F.entry_min (F.args_min1 _) ?_
  show wpAny _ A.in1 (Builtin.Builtins.bindParams "min" ["key", "default"] 0 ⟨[], []⟩ >>= _) _ _ s
  refine wpAny_bind (wpAny_of_eq (show Builtin.Builtins.bindParams "min" ["key", "default"] 0 ⟨[], []⟩ = pure [none, none] from rfl) ?_)
  refine wpAny_bind (wpAny_pure ?_)
  refine wpAny_bind (wpAny_pyIter_list hl ?_)
  refine wpAny_bind (wpAny_newObj_type ?_)
  rw [hname]
  refine wpAny_pure ⟨plainId_quiet F.plain_min_loop _, ?_⟩
  generalize hIt : s.heap.objs.size = it
  generalize hs2 : ({ s with heap := s.heap.push { cls := .type "list_iterator", data := .fields #[.ref l, .int 0 0] } } : Shared) = s2
  have hl2 : s2.heap.objs.size = it + 1 := by rw [← hs2, ← hIt]; exact Heap.size_push ..
  generalize hS0 : s2.heap.objs.size = S
  generalize hs3 : ({ s2 with heap := s2.heap.push { cls := .type "list", data := .seq #[] } } : Shared) = s3
  have k2 : ∀ b o, s.heap.get? b = some o → s2.heap.get? b = some o := fun b o e => by rw [← hs2]; exact Heap.get?_push_of_some _ e
  have k3 : ∀ b o, s2.heap.get? b = some o → s3.heap.get? b = some o := fun b o e => by rw [← hs3]; exact Heap.get?_push_of_some _ e
  have W := (Walks.list (prog := prog) (w := w) (A := A.in1) hh it l (by rw [← hIt]; exact Nat.ne_of_lt hlt) its.toArray).toS
  have hSi : S ≠ it := by rw [← hS0, hl2]; exact Nat.succ_ne_self _
  have hSl : S ≠ l := by rw [← hS0, hl2]; exact Nat.ne_of_gt (Nat.lt_succ_of_lt (by rw [← hIt]; exact hlt))
  have hSf : S ∉ [it, l] := by simp only [List.mem_cons, List.not_mem_nil, or_false, not_or]; exact ⟨hSi, hSl⟩
  have hS3 : s3.heap.get? S = some { cls := .type "list", data := .seq #[] } := by rw [← hs3, ← hS0]; exact Heap.get?_push_size _ rfl
  have hi3 : s3.heap.IsListIter it l 0 := by
    refine ⟨_, k3 _ _ (by rw [← hs2, ← hIt]; exact Heap.get?_push_size _ rfl), rfl, rfl⟩
  have hl3 : s3.heap.IsList l its.toArray := by
    obtain ⟨o, e, r⟩ := hl
    exact ⟨o, k3 _ _ (k2 _ _ e), r⟩
  have hn : 0 < its.toArray.size := by simpa using hne
  let Kp : Shared → Prop := fun s' => ∀ b o, s.heap.get? b = some o → s'.heap.get? b = some o
  have old : ∀ b o, s.heap.get? b = some o → b ∉ S :: [it] := fun b o e z => by
    have h1 := Heap.lt_size e
    rw [hIt] at h1
    rcases List.mem_cons.mp z with z | z
    · rw [z, ← hS0, hl2] at h1; exact Nat.not_lt_of_le (Nat.le_succ _) h1
    · rw [List.mem_singleton.mp z] at h1; exact Nat.lt_irrefl _ h1
  have hK : ∀ s1 s', Kp s1 → Moved (S :: [it]) (fun a b => b = a) s1 s' → Kp s' := fun s1 s' a m b o e => m.heap b o (old b o e) (a b o e)
  have kp3 : Kp s3 := fun b o e => k3 _ _ (k2 _ _ e)
  have hcmp : ∀ i j vi vj (s' : Shared) (Q : Value → Shared → Prop) (E : Value → Shared → Prop), Kp s' → its.toArray[i]? = some vi → its.toArray[j]? = some vj → Q (.bool (lexI (k (its.getD i .none)) (k (its.getD j .none)))) s' → wpAny (model prog w) A.in1 (richCompare .Lt vi vj) Q E s' := by
    intro i j vi vj s' Q E kp hi hj q
    have hi' : its[i]? = some vi := by simpa using hi
    have hj' : its[j]? = some vj := by simpa using hj
    have ei : its.getD i .none = vi := by rw [List.getD, hi']; rfl
    have ej : its.getD j .none = vj := by rw [List.getD, hj']; rfl
    rw [ei, ej] at q
    exact row_lt hu ((hr vi (List.mem_of_getElem? hi')).keeps fun b o e _ => kp b o e) ((hr vj (List.mem_of_getElem? hj')).keeps fun b o e _ => kp b o e) q
  have hSw : S ∉ [it] := fun z => hSi (List.mem_singleton.mp z)
  have notS : ∀ {b : Addr}, b ∉ S :: [it] → S ≠ b := fun hb h => hb (by rw [h]; exact List.mem_cons_self)
  refine codeAny_builtin F.entry_min_loop ?_
  rw [Around.under_plainId F.plain_min_loop _]
  show wpAny _ A.in1 (seqItems? (.ref S) >>= _) _ _ s3
  refine wpAny_bind (wpAny_seqItems hS3 rfl ?_)
  show wpAny _ A.in1 (tryCatch (pyNext (.ref it)) _ >>= _) _ _ s3
  refine wpAny_bind (wpAny_tryCatch (W.item 0 s3 _ _ hn ⟨hi3, hl3⟩ fun v s' hP hst' hm => ?_))
  have hS' := hm.heap S _ hSw hS3
  show wpAny _ A.in1 (updateSeq S (fun _ => #[v, v]) >>= _) _ _ _
  refine wpAny_bind ?_
  refine wpAny_updateSeq hS' rfl ?_
  rw [hname]
  have hm2 : Moved (S :: [it]) (fun a b => b = a) s3 { s' with heap := s'.heap.update S (Obj.mapSeq fun _ => #[v, v]) } := (hm.mono fun b hb => List.mem_cons_of_mem _ hb).then_heap (by first | exact Nat.le_refl _ | exact Nat.le_succ _ | omega) fun b o hb e => (Heap.get?_update_other _ _ (notS hb)).trans e
  refine wpAny_pure ⟨plainId_quiet F.plain_min_loop _, min_loopK W (fun i j => lexI (k (its.getD i .none)) (k (its.getD j .none))) S hSf Kp hK hcmp _ 0 _ v _ rfl hn (hK _ _ kp3 hm2) (W.frame _ s' _ s'.toks hst' (Nat.le_refl _) fun b hbf o e => ?_) hP (Heap.get?_update_self _ hS' rfl) fun v' s'' hP' hm'' => ?_⟩
  · exact (Heap.get?_update_other _ _ (fun h : S = b => hSf (by rw [h]; exact hbf))).trans e
  · have hm3 := Moved.trans W.gtrans hm2 hm''
    have hv : its[argBest (fun i j => lexI (k (its.getD i .none)) (k (its.getD j .none))) (its.length - 1)]? = some v' := by
      have : its.toArray[argBest (fun i j => lexI (k (its.getD i .none)) (k (its.getD j .none))) (its.toArray.size - 1)]? = some v' := hP'
      simpa using this
    have e3 : s3 = { s with heap := s3.heap } := by rw [← hs3, ← hs2]
    have := h v' s''.heap s''.toks hv fun b o e => hm3.heap b o (old b o e) (kp3 b o e)
    have e4 := Moved.eq_with hm3
    rw [e4, e3]
    exact this
/-- min(xs), a list of rows of ints -/
def rMinR (K : PySem.W.Frag) : List V → Hp → VK → Prop := fun vs H Q => ∃ (a : Addr) (ys : List V) (k : V → List Int) (r : List Int) (rs : List (List Int)), vs = [V.ref a] ∧ SqL K H a ys ∧ (∀ y ∈ ys, ∃ t, y = V.ref t ∧ H t = some (.tup ((k y).map V.int))) ∧ ys.map k = r :: rs ∧ ∀ v ∈ ys, k v = minI r rs → Q v H
theorem cr_minR (hc : X.calm = true) (hu : X.A.units + 1 < cLine) : CallR X (.builtin "min") (rMinR X.K) := by
  intro pins s σ H vs us Q I r h
  obtain ⟨a, ys, k, r0, rs, rfl, hs, hx, hk, q⟩ := h
  obtain ⟨its, rv, hl, hz⟩ := I.list hs
  rw [Vals.ref1 r]
  obtain ⟨e1, e2⟩ := refs_back rv fun x m => by
    obtain ⟨t, e, _⟩ := hx x m
    exact ⟨t, e⟩
  have hp : ∀ v ∈ its, IsRow s.heap v (k (backV v)) := fun v hv => by
    obtain ⟨t, rfl⟩ := e2 v hv
    have hm : V.ref t ∈ ys := by rw [e1]; exact List.mem_map.mpr ⟨_, hv, rfl⟩
    obtain ⟨t', e, ht⟩ := hx _ hm
    cases e
    obtain ⟨_, its2, r2, o, ho, hc, n, hd⟩ := I.hok _ _ ht
    exact ⟨t, o, its2, n, rfl, ho, hc, hd, r2⟩
  have hlen : its.length = rs.length + 1 := by
    have := congrArg List.length hk
    rw [List.length_map, List.length_cons] at this
    rw [← rv.length]; exact this
  have hmap : its.map (fun v => k (backV v)) = r0 :: rs := by rw [← hk, e1, List.map_map]; rfl
  refine min_rows (k := fun v => k (backV v)) (I.ok.hd hc) hu hl.isList hp (by omega) fun v h' tk hv hkp => ?_
  have hvm := List.mem_of_getElem? hv
  obtain ⟨t, rfl⟩ := e2 v hvm
  refine ⟨V.ref t, H, I.kept hkp, rfl, q _ (by rw [e1]; exact List.mem_map.mpr ⟨_, hvm, rfl⟩) ?_⟩
  have gd : ∀ i, i < its.length → k (backV (its.getD i .none)) = (r0 :: rs).getD i [] := fun i hi => by
    rw [← hmap, List.getD, List.getD, List.getElem?_map, List.getElem?_eq_getElem hi]; rfl
  have gall : ∀ m, m < its.length → argBest (fun i j => lexI (k (backV (its.getD i .none))) (k (backV (its.getD j .none)))) m = argBest (fun i j => lexI ((r0 :: rs).getD i []) ((r0 :: rs).getD j [])) m ∧ argBest (fun i j => lexI ((r0 :: rs).getD i []) ((r0 :: rs).getD j [])) m ≤ m := by
    intro m
    induction m with
    | zero => intro _; exact ⟨rfl, Nat.le_refl _⟩
    | succ m ih =>
      intro hm
      obtain ⟨a1, a2⟩ := ih (by omega)
      unfold argBest
      rw [a1, gd (m + 1) hm, gd _ (by omega)]
      constructor
      · rfl
      · split
        · exact Nat.le_refl _
        · omega
  obtain ⟨g1, g2⟩ := gall (its.length - 1) (by omega)
  rw [g1] at hv
  have e5 := min_row r0 rs
  have e6 : its.length - 1 = rs.length := by omega
  rw [e6] at hv g2
  rw [← e5, ← gd _ (by omega), List.getD, hv]
  rfl
def gMin (d : D) (η : Hd) : Option (D × Hd) := match d with
  | .ref r => match η.list r with
    | some l => match rowsOf l with
      | some (r :: rs) => some (rowD (minI r rs), η)
      | _ => none
    | none => none
  | _ => none
theorem blt_min (hc : X.calm = true) (hu : X.A.units + 1 < cLine) : CallR X (.builtin "min") (rN X.K N (f1 gMin)) := CallR.imp (cr_minR hc hu) fun xs H Q q => by
  obtain ⟨W, ds, d, η', rfl, o, rs, hf, hq⟩ := q
  obtain ⟨d0, rfl, hg⟩ := f1_inv hf
  obtain ⟨v, rfl, r⟩ := rel1 rs
  cases d0 with
  | ref r0 =>
    simp only [gMin] at hg
    cases e : W.η.list r0 with
    | none => rw [e] at hg; cases hg
    | some l =>
      rw [e] at hg
      simp only at hg
      cases e2 : rowsOf l with
      | none => rw [e2] at hg; cases hg
      | some rr =>
        rw [e2] at hg
        cases rr with
        | nil => cases hg
        | cons a as =>
          simp only [Option.some.injEq, Prod.mk.injEq] at hg
          obtain ⟨rfl, rfl⟩ := hg
          obtain ⟨vs, g1, g2, g3⟩ := list_of o e
          rw [(rowsOf_eq e2).1] at g2
          obtain ⟨h1, h2⟩ := rel_rows g2
          rw [relRef r]
          refine ⟨_, vs, rowV W.H, a, as, rfl, g1, fun y hy => ?_, h1, fun v hv hm => ?_⟩
          · obtain ⟨t, e, h⟩ := h2 y hy
            exact ⟨t, e, h⟩
          · refine same_w o hq ?_
            rw [← hm]
            have := rows_rel (W := W) (vs := [v]) fun y hy => by
              rw [List.mem_singleton.mp hy]
              obtain ⟨t, e, h⟩ := h2 v hv
              exact ⟨t, e, h⟩
            obtain ⟨v', e, r'⟩ := rel1 this
            cases e
            exact r'
  | _ => cases hg
end
end DL

/-! count, three names at once, o[i] op= e, tuple(reversed(..)) -/
namespace DL
open PySem PySem.Spec L2
section
variable {X : Cx} {N : Nm} {E : XK}
/-- l.count(x) -/
def rCountD (K : PySem.W.Frag) : V → List V → Hp → VK → Prop := fun x xs H Q => ∃ (a : Addr) (y : V) (d : PyData) (ds : List PyData), x = V.ref a ∧ xs = [y] ∧ Dp K H (V.ref a) (.list ds) ∧ Dp K H y d ∧
  SeqAt.shaped (.list ds) = true ∧ SeqAt.shaped d = true ∧ Q (.int (ds.countP (fun z => PyData.eqv z d) : Nat)) H
theorem mt_countD (hu : X.A.units + 65 < cLine) : MtR X "list.count" (rCountD X.K) := by
  intro pins s σ H x xs v us Q I rx rxs h
  obtain ⟨a, y, d, ds, rfl, rfl, hl, hy, sl, sd, q⟩ := h
  cases rx
  cases rxs with
  | cons ry rt =>
    rename_i uy ut
    cases rt
    obtain ⟨bs, r1⟩ := Dp.reads I d y uy hy ry
    have hxs : PyData.canLayAll0 ds = true := SeqAt.canLay_of_shaped sl
    have hroom : X.A.units + 1 + min (PyData.depthAll ds) d.depth < cLine := PyProof.Rows.room_in_shaped sd hu
    cases hl with
    | lst hs ha =>
      obtain ⟨its, rv, ⟨⟨cls, dd, data, sls⟩, n, ho, hc, hdn, hdt⟩, hlen⟩ := I.list hs
      simp only at hc hdt
      subst hc hdt
      obtain ⟨as, h4⟩ := Dp.readsAll I ds _ its ha rv
      have hmap : its.map (SeqAt.readOf s.heap) = ds := SeqAt.readsAll_map ds its as hxs h4
      refine call_meets PySem.F.slot_list_count ⟨_, ho, rfl⟩ PySem.F.entry_list_count (PySem.F.args_list_count_2 _ _)
        (SeqAt.list_countAt a its.toArray n dd sls uy (fun u => PyData.eqv (SeqAt.readOf s.heap u) d)) ⟨ho, SeqAt.items_eqAt (vs := its.toArray) (show ReadsAll s.heap its.toArray.toList ds as from h4) r1 hxs (SeqAt.canLay_of_shaped sd) hroom, ?_⟩
      have ec : its.toArray.toList.countP (fun u => PyData.eqv (SeqAt.readOf s.heap u) d) = ds.countP (fun z => PyData.eqv z d) := by
        rw [← hmap, List.countP_map]
        rfl
      refine ⟨.int (ds.countP (fun z => PyData.eqv z d) : Nat), H, I.tok _, ⟨s.toks, ?_⟩, q⟩
      show Value.int ((its.toArray.toList.countP _ : Nat) : Int) s.toks = _
      rw [ec]
def cntD (f : D → Bool) : List D → Nat → Nat
  | [], n => n
  | d :: l, n => match f d with
    | true => cntD f l (Nat.succ n)
    | false => cntD f l n
theorem cntD_eq (f : D → Bool) : ∀ (l : List D) (n : Nat), cntD f l n = n + l.countP f
  | [], n => by simp [cntD]
  | d :: l, n => by
    unfold cntD
    cases e : f d with
    | true => simp only; rw [cntD_eq f l, List.countP_cons_of_pos e]; omega
    | false => simp only; rw [cntD_eq f l, List.countP_cons_of_neg (by rw [e]; decide)]
def fCount : FM := fun x ds η => match x, ds with
  | .ref r, [y] => match η.list r with
    | some l => match pur 8 y, purs 8 l with
      | true, true => some (.int (cntD (fun z => eqn 8 z y) l 0), η)
      | _, _ => none
    | none => none
  | _, _ => none
theorem mtd_count (hu : X.A.units + 65 < cLine) : MtR X "list.count" (rM X.K N fCount) := MtR.imp (mt_countD hu) fun x xs H Q q => by
  obtain ⟨W, dx, ds, d, η', rfl, o, rx, rs, hf, hq⟩ := q
  cases dx with
  | ref r =>
    match ds, rs, hf with
    | [y], rs, hf =>
      obtain ⟨v, rfl, ry⟩ := rel1 rs
      simp only [fCount] at hf
      cases e : W.η.list r with
      | none => rw [e] at hf; cases hf
      | some l =>
        rw [e] at hf
        simp only at hf
        cases ex : pur 8 y with
        | false => rw [ex] at hf; cases hf
        | true =>
          cases ey : purs 8 l with
          | false => rw [ex, ey] at hf; cases hf
          | true =>
            rw [ex, ey] at hf
            simp only [Option.some.injEq, Prod.mk.injEq] at hf
            obtain ⟨rfl, rfl⟩ := hf
            obtain ⟨vs, g1, g2, g3⟩ := list_of o e
            obtain ⟨a1, a2, a3⟩ := purs_dp (K := X.K) 8 l vs ey g2
            obtain ⟨b1, b2, b3⟩ := pur_dp (K := X.K) 8 y v ex ry
            have ep : ∀ z ∈ l, pur 8 z = true := fun z hz => List.all_eq_true.mp ey z hz
            rw [relRef rx]
            have ec : (toPys l).countP (fun z => PyData.eqv z (toPy y)) = l.countP (fun z => eqn 8 z y) := by
              rw [toPys_map, List.countP_map]
              refine List.countP_congr fun z hz => ?_
              show PyData.eqv (toPy z) (toPy y) = true ↔ _
              rw [← eqn_py 8 z y (ep z hz) ex]
            rw [cntD_eq, Nat.zero_add] at hq
            refine ⟨_, v, toPy y, toPys l, rfl, rfl, .lst g1 a1, b1, shaped_of (by simpa [PyData.canLay0] using a2) (by simp only [PyData.depth]; omega), shaped_of b2 (by omega), ?_⟩
            rw [ec]
            exact same_w o hq mkInt
    | [], _, hf => cases hf
    | _ :: _ :: _, _, hf => cases hf
  | _ => cases hf
/-- three names at once -/
theorem js_par3 {i j l : Nat} {x y z : Str} {a b c : Expr} {ca : CA} {px py pz pt pos : Pos} {kt k2 pt2} (hc : X.calm = true) (hN : X.N.Nodup) (hi : X.N[i]? = some x) (hj : X.N[j]? = some y) (hl : X.N[l]? = some z) (hij : i ≠ j) (hil : i ≠ l) (hjl : j ≠ l)
    (hx : X.env.scope.names.lookup x = some .local) (hy : X.env.scope.names.lookup y = some .local) (hz : X.env.scope.names.lookup z = some .local) (ha : JA X N E [a, b, c] ca)
    (hw : swappedStores [.Tuple [.Name x px, .Name y py, .Name z pz] kt pt] (.Tuple [a, b, c] k2 pt2) X.env = pure (some [x, y, z]))
    (hs : swapsWithSole [.Tuple [.Name x px, .Name y py, .Name z pz] kt pt] (.Tuple [a, b, c] k2 pt2) pos.line X.env = pure false := by rfl) :
    JS X N E (.Assign [.Tuple [.Name x px, .Name y py, .Name z pz] kt pt] (.Tuple [a, b, c] k2 pt2) pos) (sPar3 i j l ca) :=
  PS.imp (ps_par3 hc hN hi hj hl hij hil hjl hx hy hz ha hw hs) fun Z σ H q => by
    obtain ⟨W, σd, k, rfl, o, s, h, hk⟩ := q
    refine tAr.bind o s hk.xc h fun W1 ds vs x1 o1 r1 s1 hx1 h1 => ?_
    match ds, r1, h1 with
    | [d, e, f], r1, h1 =>
      obtain ⟨v, u, w, rfl, ra, rb, rc⟩ := rel3 r1
      exact ⟨v, u, w, rfl, hk.nx W1 _ _ x1 o1 (((s1.set i ra).set j rb).set l rc) h1⟩
    | [], _, h1 => cases h1
    | [_], _, h1 => cases h1
    | [_, _], _, h1 => cases h1
    | _ :: _ :: _ :: _ :: _, _, h1 => cases h1
/-- o[i] op= e -/
theorem get_list' : PGet X (rIxL X.K) := by
  intro pins s σ H x y v u Q I rx ry h
  obtain ⟨p, xs, i, z, rfl, rfl, hq, he, q⟩ := h
  cases rx
  obtain ⟨t, rfl⟩ := ry
  obtain ⟨its, r, pl, hz⟩ := I.list hq
  obtain ⟨j, h1, h2, h3, h4, h5⟩ := atI_get he
  obtain ⟨w, ew, rw'⟩ := r.get h2
  have hl := r.length
  have hn := line63
  have fin : EP X pins σ Q w s := ⟨z, H, I, rw', q⟩
  by_cases h0 : 0 ≤ i
  · have hj : i.toNat = j := by
      rw [seqIndex_of h0 h5] at h1
      exact Option.some.inj h1
    exact wpAny_getItem_list pl.isList h0 (by omega) (by rw [hj]; simpa using ew) fin
  · have hj : (i + (its.toArray.size : Int)).toNat = j := by
      rw [seqIndex_neg (by omega) h4] at h1
      rw [List.size_toArray, ← hl]
      exact Option.some.inj h1
    exact wpAny_getItem_list_neg pl.isList (by omega) (by rw [List.size_toArray] <;> omega) (by omega) (by rw [hj]; simpa using ew) fin
theorem get_dict' (hu : X.A.units + 1 < cLine) : PGet X (fun x y H Q => ∃ a v, x = .ref a ∧ DGet H a y (some v) ∧ Q v H) := by
  intro pins s σ H x y v u Q I rx ry h
  obtain ⟨a, w, rfl, g, q⟩ := h
  obtain rfl : v = Value.ref a := rx
  exact d_getItem hu I g ry fun w' s3 I3 rw' => ⟨w, H, I3, rw', q⟩
theorem get_tup' : PGet X (rIxT X.K) := by
  intro pins s σ H x y v u Q I rx ry h
  obtain ⟨p, xs, i, z, rfl, rfl, hq, he, q⟩ := h
  cases rx
  obtain ⟨t, rfl⟩ := ry
  obtain ⟨its, r, pl, hz⟩ := I.tuple hq
  obtain ⟨j, h1, h2, h3, h4, h5⟩ := atI_get he
  obtain ⟨w, ew, rw'⟩ := r.get h2
  have hl := r.length
  have hn := line63
  exact PyProof.Rows.getItem_tuple (j := j) pl (by omega) (by omega) (by rw [List.size_toArray, ← hl]; exact h1) (by simpa using ew) ⟨z, H, I, rw', q⟩
theorem get_all' (hu : X.A.units + 1 < cLine) : PGet X (fun x y H Q => (rIxL X.K x y H Q ∨ rIxT X.K x y H Q) ∨ ∃ a v, x = .ref a ∧ DGet H a y (some v) ∧ Q v H) :=
  fun pins s σ H x y v u Q I rx ry h => h.elim (fun h => h.elim (get_list' pins s σ H x y v u Q I rx ry) (get_tup' pins s σ H x y v u Q I rx ry)) (get_dict' hu pins s σ H x y v u Q I rx ry)
def sAugS (co ci : CE) (f : F2) (c : CE) : CS := fun σ η k => co σ η (fun x η1 => ci σ η1 (fun y η2 => match fIx x y η2 with
  | some (old, η3) => c σ η3 (fun v η4 => match f old v η4 with
    | some (z, η5) => match fSet x y z η5 with
      | some η6 => k.nx σ η6
      | none => false
    | none => false) k.xc
  | none => false) k.xc) k.xc
theorem js_augS {o i e : Expr} {co ci c : CE} {op : Operator} {f : F2} {tpos pos : Pos} (hu : X.A.units + 1 < cLine) (ho : JE X N E o co) (hi : JE X N E i ci) (he : JE X N E e c) (hp : OpR X (inplaceOp op) (r2 X.K N f))
    (ha : ∀ ov iv new, augStore i ov iv new = (do holding [new, ov, iv] (setItem ov iv new); release [new, ov, iv] []; pure .next) := by intros; rfl) : JS X N E (.AugAssign (.Subscript o i tpos) op e pos) (sAugS co ci f c) :=
  PS.imp (ps_augS ho hi (get_all' hu) he hp (pset_all (N := N) hu) ha) fun Z σ H q => by
    obtain ⟨W, σd, k, rfl, o, s, h, hk⟩ := q
    refine tE.bind o s hk.xc h fun W1 dx x x1 o1 r1 s1 hx1 h1 => ?_
    refine tE.bind o1 s1 hx1 h1 fun W2 dy y x2 o2 r2 s2 hx2 h2 => ?_
    cases e : fIx dx dy W2.η with
    | none => rw [e] at h2; cases h2
    | some p =>
      obtain ⟨old, η3⟩ := p
      rw [e] at h2
      have x02 := x1.trans o o1 x2
      refine fIx_ok (N := N) (K := X.K) (x := x) (y := y) (H := W2.H) ⟨W2, dx, dy, old, η3, rfl, o2, r1.mono o1 x2, r2, e, fun W3 v x3 o3 e3 r3 => ?_⟩
      rw [← e3] at h2
      refine tE.bind o3 (s2.mono o2 x3) (hx2.mono o2 o3 x3) h2 fun W4 dv v4 x4 o4 r4 s4 hx4 h4 => ?_
      cases ef : f old dv W4.η with
      | none => rw [ef] at h4; cases h4
      | some p =>
        obtain ⟨z, η5⟩ := p
        rw [ef] at h4
        refine ⟨W4, old, dv, z, η5, rfl, o4, r3.mono o3 x4, r4, ef, fun W5 v5 x5 o5 e5 r5 => ?_⟩
        rw [← e5] at h4
        dsimp only at h4
        have x25 : Ext W2 W5 := x3.trans o2 o3 (x4.trans o3 o4 x5)
        cases es : fSet dx dy z W5.η with
        | none => rw [es] at h4; cases h4
        | some η6 =>
          rw [es] at h4
          exact ⟨W5, dx, dy, z, η6, rfl, o5, (r1.mono o1 x2).mono o2 x25, r2.mono o2 x25, r5, es, fun W6 x6 o6 e6 => hk.nx W6 σd σ (x02.trans o o2 (x25.trans o2 o5 x6)) o6 (s2.mono o2 (x25.trans o2 o5 x6)) (by rw [e6]; exact h4)⟩
end
end DL

/-! tuple(reversed(t)), t a tuple -/
namespace DL
open PySem PySem.Spec PyProof.Rows L2 RT
theorem nolen_rt : typeLookup (.type "reversed") "__len__" = pure none := by rw [typeLookup_type, builtinLookup_eq_fast]; kernel_rfl
theorem hint_rt : typeLookup (.type "reversed") "__length_hint__" = pure (some (.builtin "reversed.__length_hint__")) := by rw [typeLookup_type, builtinLookup_eq_fast]; kernel_rfl
theorem slot_rt_hint : Slot "reversed" "__length_hint__" "reversed.__length_hint__" :=
  .of (owner := "reversed") (n := "__length_hint__") (by rw [typeLookup_type, builtinLookup_eq_fast]; kernel_rfl) (by decide +kernel) (by decide +kernel) (by decide +kernel)
    (by first | exact .inl (by decide +kernel) | exact .inr (by decide +kernel)) (by rw [isSubtype_type]; kernel_rfl)
theorem entry_rt_hint : entryFor table "reversed.__length_hint__" = some Builtin.«reversed.__length_hint__» := entryFor_of_tree (by kernel_rfl)
theorem args_rt_hint (a : Value) : argsOk "reversed.__length_hint__" ⟨[a], []⟩ := by
  unfold argsOk; rw [signature?_of (id := "reversed.__length_hint__") (n := ['_', '_', 't', 'n', 'i', 'h', '_', 'h', 't', 'g', 'n', 'e', 'l', '_', '_']) (o := ['d', 'e', 's', 'r', 'e', 'v', 'e', 'r']) (by kernel_rfl) owner_rt]; kernel_rfl
section
variable {prog : Program} {w : World} {A : Around} {E : Value → Shared → Prop} {s : Shared}
theorem call_rt_hint {it l : Addr} {items : Array Value} {Q : Value → Shared → Prop} (hit : IsRt s.heap it l ((items.size : Int) - 1)) (hl : IsTup s.heap l items) (hn : items.size ≤ sizeLine) (hQ : ∀ t tk, Q (.int items.size t) { s with toks := tk }) :
    wpAny (model prog w) A (call (.builtin "reversed.__length_hint__") [.ref it]) Q E s := by
  obtain ⟨o, ho, hc, hd⟩ := id hit
  have hfit : (items.size : Int) < 2 ^ 63 := by have := sizeLine_eq; omega
  refine wpAny_call_entry slot_rt_hint hit.typeIs entry_rt_hint ?_ (args_rt_hint _)
  unfold Builtin.«reversed.__length_hint__»
  refine wpAny_bind (wpAny_of_eq (a := Value.ref it) rfl ?_)
  try dsimp only
  refine wpAny_bind (wpAny_field ho hd (x := .ref l) rfl ?_)
  try dsimp only
  rw [if_neg (show ¬ ((Value.ref l == Value.none) = true) from Bool.false_ne_true)]
  refine wpAny_bind (len_tuple hl hfit ?_)
  refine wpAny_bind (wpAny_of_eq (a := some ((items.size : Nat) : Int)) rfl ?_)
  try dsimp only
  refine wpAny_bind (wpAny_field (s := { s with toks := s.toks + 1 + 1 }) ho hd (x := rawInt ((items.size : Int) - 1)) rfl ?_)
  show wpAny _ _ (if ((items.size : Nat) : Int) < (items.size : Int) - 1 + 1 then _ else _) _ _ _
  rw [if_neg (by omega)]
  unfold retInt
  refine wpAny_bind (wpAny_mkInt ?_)
  refine wpAny_pure ⟨_, rfl, ?_⟩
  have e : (items.size : Int) - 1 + 1 = items.size := by omega
  rw [e]
  exact hQ _ _
theorem walks_rt (hh : A.handled = none) (it t : Addr) (items : Array Value) (hne : t ≠ it) (hn : items.size ≤ sizeLine) :
    WalksS prog w A it [it, t] [it] (fun a b => b = a) items.size (fun i v => items[items.size - 1 - i]? = some v) (fun i s => i ≤ items.size ∧ IsRt s.heap it t ((items.size : Int) - 1 - (i : Nat)) ∧ IsTup s.heap t items) where
  sub := fun b hb => by simp at hb; simp [hb]
  grefl := fun _ => rfl
  gtrans := fun _ _ _ h1 h2 => h2.trans h1
  frame := fun i s h' _ st _ hk => ⟨st.1, st.2.1.at fun o e => hk it (by simp) o e, by
    obtain ⟨o, e, r⟩ := st.2.2
    exact ⟨o, hk t (by simp) o e, r⟩⟩
  item := fun i s Q E hi st hQ => by
    obtain ⟨h1, h2, h3⟩ := st
    have e : ((items.size : Int) - 1 - (i : Nat)) = ((items.size - 1 - i : Nat) : Int) := by omega
    rw [e] at h2
    have hx : items[items.size - 1 - i]? = some (items[items.size - 1 - i]'(by omega)) := Array.getElem?_eq_getElem _
    refine next_rt_item h2 h3 hx hn fun h' hr hs => hQ _ _ hx ⟨hi, ?_, ?_⟩ ⟨fun b o hb e => hs.extBut b o (fun z => hb (by simp [z])) e, rfl, rfl, rfl, Nat.le_succ _⟩
    · have e2 : ((items.size : Int) - 1 - ((i + 1 : Nat) : Int)) = ((items.size - 1 - i : Nat) : Int) - 1 := by omega
      rw [e2]; exact hr
    · obtain ⟨o, e, r⟩ := h3
      exact ⟨o, hs.extBut t o hne e, r⟩
  done := fun s Q E st hQ => by
    obtain ⟨h1, h2, h3⟩ := st
    have e : ((items.size : Int) - 1 - (items.size : Nat)) = -1 := by omega
    rw [e] at h2
    exact next_rt_end hh h2 fun h' hs => hQ _ ⟨fun b o hb e => hs b o (fun z => hb (by simp [z])) e, rfl, rfl, rfl, Nat.le_refl _⟩
  self := fun i s Q E st hQ => iter_rt st.2.1 hQ
theorem collect_rt {it l : Addr} {items : Array Value} {Q : List Value → Shared → Prop} (hh : A.handled = none) (hit : IsRt s.heap it l ((items.size : Int) - 1)) (hl : IsTup s.heap l items) (hne : l ≠ it) (hn : items.size ≤ sizeLine)
    (hQ : ∀ (h' : Heap) (tk : Nat) (acc : Array Value), (∀ b o, b ≠ it → s.heap.get? b = some o → h'.get? b = some o) → ItemsOf (fun i v => items[items.size - 1 - i]? = some v) acc items.size → Q acc.toList { s with heap := h', toks := tk }) :
    wpAny (model prog w) A (collect (.ref it)) Q E s := by
  have W := walks_rt (prog := prog) (w := w) (A := A.in1) hh it l items hne hn
  obtain ⟨oi, hoi, _⟩ := id hit
  obtain ⟨ol, hol, _⟩ := id hl
  have hSi : s.heap.objs.size ≠ it := Nat.ne_of_gt (Heap.lt_size hoi)
  have hSl : s.heap.objs.size ≠ l := Nat.ne_of_gt (Heap.lt_size hol)
  have hSf : s.heap.objs.size ∉ [it, l] := by simp only [List.mem_cons, List.not_mem_nil, or_false, not_or]; exact ⟨hSi, hSl⟩
  unfold collect
  refine wpAny_bind (wpAny_runValue (codeAny_builtin F.entry_proto_collect ?_))
  rw [Around.under_plainId F.plain_proto_collect _]
  show wpAny _ A.in1 (newList [] >>= fun l' => again (.builtin "list.__iadd__" ⟨[l', .ref it], []⟩)) _ _ s
  refine wpAny_bind (wpAny_newObj_type ?_)
  refine wpAny_pure ⟨plainId_quiet F.plain_list_iadd _, codeAny_builtin F.entry_list_iadd ?_⟩
  rw [Around.under_plainId F.plain_list_iadd _]
  have hS₁ : (s.heap.push { cls := .type "list", data := .seq ([] : List Value).toArray }).get? s.heap.objs.size = some { cls := .type "list", data := .seq ([] : List Value).toArray } := Heap.get?_push_size _ rfl
  have hit1 : IsRt (s.heap.push { cls := .type "list", data := .seq ([] : List Value).toArray }) it l ((items.size : Int) - 1) := hit.at fun o e => Heap.get?_push_of_some _ e
  have hl1 : IsTup (s.heap.push { cls := .type "list", data := .seq ([] : List Value).toArray }) l items := by
    obtain ⟨o, e, r⟩ := hl
    exact ⟨o, Heap.get?_push_of_some _ e, r⟩
  have hT : ({ s with heap := s.heap.push { cls := .type "list", data := .seq ([] : List Value).toArray } } : Shared).TypeIs (.ref it) "reversed" := IsRt.typeIs (s := { s with heap := s.heap.push { cls := .type "list", data := .seq ([] : List Value).toArray } }) hit1
  have h1 : Builtin.List.listSameRef (.ref s.heap.objs.size) (.ref it) = false := by simp [Builtin.List.listSameRef, hSi]
  show wpAny _ A.in1 (Builtin.List.listExtendWith (.ref s.heap.objs.size) (.ref it) (.ref s.heap.objs.size)) _ _ _
  unfold Builtin.List.listExtendWith
  refine wpAny_bind (wpAny_typeOf hT ?_)
  rw [if_neg (by rw [h1]; decide)]
  refine wpAny_bind (iter_rt (s := { s with heap := s.heap.push { cls := .type "list", data := .seq ([] : List Value).toArray } }) hit1 ?_)
  refine wpAny_bind (wpAny_holding ?_)
  unfold Builtin.List.listLengthHint
  refine wpAny_bind (wpAny_specialOf hT nolen_rt ?_)
  show wpAny _ A.in1 (specialOf (Value.ref it) (Str.ofString "__length_hint__") >>= _) _ _ _
  refine wpAny_bind (wpAny_specialOf hT hint_rt ?_)
  generalize hid : ("reversed.__length_hint__" : String) = id0
  wp_delta
  rw [show splitId id0 = some ("reversed", "__length_hint__") from by subst hid; decide +kernel]
  subst hid
  refine wpAny_bind (wpAny_isInstance (b := true) hT (by rw [isSubtype_type]; kernel_rfl) ?_)
  rw [if_neg (show ¬ ((!true) = true) by decide)]
  show wpAny _ A.in1 (if _ = true then _ else (rule "list.length-hint.hint" >>= fun _ => bindSpecial (.builtin "reversed.__length_hint__") (.ref it) >>= _)) _ _ _
  rw [if_neg (by decide)]
  refine wpAny_bind (wpAny_rule ?_)
  refine wpAny_bind (wpAny_of_eq (a := (.builtin "reversed.__length_hint__", [.ref it])) (by kernel_rfl) ?_)
  refine wpAny_bind (wpAny_attempt (call_rt_hint (s := { s with heap := s.heap.push { cls := .type "list", data := .seq ([] : List Value).toArray } }) hit1 hl1 hn fun t tk => ?_))
  have f1 : (!Builtin.List.listFitsIndex ((items.size : Nat) : Int)) = false := by
    have := sizeLine_eq
    have h : Builtin.List.listFitsIndex ((items.size : Nat) : Int) = true := by
      simp only [Builtin.List.listFitsIndex, Bool.and_eq_true, decide_eq_true_eq]; omega
    rw [h]; rfl
  have f2 : Builtin.List.listTooLong ((items.size : Nat) : Int).toNat = false := by
    simp only [Builtin.List.listTooLong, decide_eq_false_iff_not]; omega
  have f3 : ¬ ((items.size : Nat) : Int) < 0 := by omega
  generalize ((items.size : Nat) : Int) = nn at f1 f2 f3 ⊢
  show wpAny _ A.in1 (asInt? (Value.int nn t) >>= _) _ _ _
  refine wpAny_bind (wpAny_of_eq (a := some nn) rfl ?_)
  dsimp only
  rw [if_neg (by rw [f1]; decide), if_neg f3, if_neg (by rw [f2]; decide)]
  refine wpAny_pure ?_
  have e0 : ((items.size : Nat) : Int) - 1 - ((0 : Nat) : Int) = (items.size : Int) - 1 := by omega
  have oth2 : ∀ b : Addr, ∀ o, s.heap.get? b = some o → b ≠ s.heap.objs.size := fun b o e => Nat.ne_of_lt (Heap.lt_size e)
  cases hnz : (nn != 0) with
  | true =>
    rw [if_pos (by rfl)]
    refine wpAny_bind (wpAny_rule ?_)
    refine wpAny_bind ?_
    show wpAny _ A.in1 (updateSeq s.heap.objs.size (·.push .none) >>= fun _ => updateSeq s.heap.objs.size (·.pop)) _ _ _
    refine wpAny_bind (wpAny_updateSeq hS₁ rfl ?_)
    have hS₂ := Heap.get?_update_self (Obj.mapSeq (·.push Value.none)) hS₁ rfl
    refine wpAny_updateSeq hS₂ rfl ?_
    have hS₃ := Heap.get?_update_self (Obj.mapSeq (·.pop)) hS₂ rfl
    have oth : ∀ b o, b ≠ s.heap.objs.size → (s.heap.push { cls := .type "list", data := .seq ([] : List Value).toArray }).get? b = some o →
        (((s.heap.push { cls := .type "list", data := .seq ([] : List Value).toArray }).update s.heap.objs.size (Obj.mapSeq (·.push Value.none))).update s.heap.objs.size (Obj.mapSeq (·.pop))).get? b = some o :=
      fun b o hb e => (Heap.get?_update_other _ _ (Ne.symm hb)).trans ((Heap.get?_update_other _ _ (Ne.symm hb)).trans e)
    refine wpAny_pure ⟨plainId_quiet F.plain_extend_loop _, codeAny_extend_loopS W hn _ hSf _ items.size 0 _ _ _ rfl (Nat.zero_le _) ⟨Nat.zero_le _, ?_, ?_⟩ hS₃ (ItemsOf.nil _) fun s' acc' c' hm hS' hacc => ?_⟩
    · rw [e0]; exact hit1.at fun o e => oth _ o (Ne.symm hSi) e
    · obtain ⟨o, e, r⟩ := hl1
      exact ⟨o, oth _ o (Ne.symm hSl) e, r⟩
    · show wpAny _ A (load s.heap.objs.size >>= _) _ _ s'
      refine wpAny_bind (wpAny_load hS' ?_)
      refine wpAny_pure ?_
      rw [Moved.eq_with hm]
      refine hQ s'.heap s'.toks acc' (fun b o hb e => hm.heap b o (fun hmem => ?_) (oth b o (oth2 b o e) (Heap.get?_push_of_some _ e))) hacc
      rcases List.mem_cons.mp hmem with e' | hmem
      · exact absurd (Heap.lt_size e) (by rw [e']; exact Nat.lt_irrefl _)
      · exact hb (List.mem_singleton.mp hmem)
  | false =>
    rw [if_neg (by decide)]
    refine wpAny_pure ⟨plainId_quiet F.plain_extend_loop _, codeAny_extend_loopS W hn _ hSf _ items.size 0 _ _ _ rfl (Nat.zero_le _) ⟨Nat.zero_le _, by rw [e0]; exact hit1, hl1⟩ hS₁ (ItemsOf.nil _) fun s' acc' c' hm hS' hacc => ?_⟩
    show wpAny _ A (load s.heap.objs.size >>= _) _ _ s'
    refine wpAny_bind (wpAny_load hS' ?_)
    refine wpAny_pure ?_
    rw [Moved.eq_with hm]
    refine hQ s'.heap s'.toks acc' (fun b o hb e => hm.heap b o (fun hmem => ?_) (Heap.get?_push_of_some _ e)) hacc
    rcases List.mem_cons.mp hmem with e' | hmem
    · exact absurd (Heap.lt_size e) (by rw [e']; exact Nat.lt_irrefl _)
    · exact hb (List.mem_singleton.mp hmem)
theorem code_tuple_new_rt {it l : Addr} {items : Array Value} {Q₁ : Value → Shared → Prop} (hh : A.handled = none) (hit : IsRt s.heap it l ((items.size : Int) - 1)) (hl : IsTup s.heap l items) (hne : l ≠ it) (hn : items.size ≤ sizeLine)
    (h : ∀ (h' : Heap) (tk : Nat) (acc : Array Value), (∀ b o, b ≠ it → s.heap.get? b = some o → h'.get? b = some o) → ItemsOf (fun i v => items[items.size - 1 - i]? = some v) acc items.size →
      Q₁ (.ref h'.objs.size) { s with heap := h'.push { cls := .type "tuple", data := .seq acc }, toks := tk }) :
    codeAny (model prog w) A (.call (.builtin "tuple.__new__") ⟨[.type "tuple", .ref it], []⟩) (wants Q₁ E) s := by
  refine codeAny_of_tree ?_
  show wpAny _ A.in1 (do checkBuiltinCall "tuple.__new__" ⟨[.type "tuple", .ref it], []⟩; again (.builtin "tuple.__new__" ⟨[.type "tuple", .ref it], []⟩)) _ _ s
  refine wpAny_bind (wpAny_of_eq (F.newCall_tuple_1 _) (wpAny_pure ⟨plainId_quiet F.plain_tuple_new _, codeAny_builtin F.entry_tuple_new ?_⟩))
  rw [Around.under_plainId F.plain_tuple_new _]
  have hsub := sub_tuple_self
  have hinit := init_tuple_lookup
  have hmh := madeHere_tuple
  have hTI : s.TypeIs (.ref it) "reversed" := hit.typeIs
  have hh1 : A.in1.handled = none := hh
  wp_walk using wpAny_typeOf hTI, collect_rt (A := A.in1) hh1 hit hl hne hn
  intro h' tk acc hk hacc
  show wpAny _ _ (Builtin.Tuple.tupleExact acc.toList.toArray >>= fun v => ret v) _ _ _
  unfold Builtin.Tuple.tupleExact
  refine wpAny_bind (wpAny_newObj_type ?_ (by show acc.toList.toArray.size ≤ sizeLine; simp only [Array.toArray_toList]; rw [hacc.1]; exact hn))
  refine wpAny_pure ?_
  have e : acc.toList.toArray = acc := by simp
  rw [e]
  exact h h' tk acc hk hacc
theorem call_tuple_rt {it l : Addr} {items : Array Value} {Q : Value → Shared → Prop} (hh : A.handled = none) (hit : IsRt s.heap it l ((items.size : Int) - 1)) (hl : IsTup s.heap l items) (hne : l ≠ it) (hn : items.size ≤ sizeLine)
    (hQ : ∀ (h' : Heap) (tk : Nat) (acc : Array Value), (∀ b o, b ≠ it → s.heap.get? b = some o → h'.get? b = some o) → ItemsOf (fun i v => items[items.size - 1 - i]? = some v) acc items.size →
      Q (.ref h'.objs.size) { s with heap := h'.push { cls := .type "tuple", data := .seq acc }, toks := tk }) :
    wpAny (model prog w) A (call (.type "tuple") [.ref it]) Q E s := by
  refine callType_codes (Q₁ := fun obj s₁ => s₁.TypeIs obj "tuple" ∧ Q obj s₁) F.called_tuple (F.typeCall_tuple_1 _) F.entry_object_init
    (code_tuple_new_rt (A := A.in1) hh hit hl hne hn fun h' tk acc hk hacc => ⟨⟨_, Heap.get?_push_size _ rfl, rfl⟩, hQ h' tk acc hk hacc⟩) fun obj s₁ h₁ => ?_
  exact ⟨h₁.1, F.args_object_init_2 obj _, object_init_meets F.called_tuple.init.lookup F.called_tuple.made (by decide) prog w A.in1 _ s₁ ⟨h₁.1, rfl, h₁.2⟩⟩
end
section
variable {X : Cx} {N : Nm} {E : XK}
def tTupRt (K : PySem.W.Frag) (te : TE) : TE := fun σ H Q => te σ H fun v H1 => ∃ (a : Addr) (xs : List V), v = .ref a ∧ SqT K H1 a xs ∧ ∀ q, H1 q = none → Q (.ref q) (upd H1 q (.tup xs.reverse))
theorem pe_tupRt {e : Expr} {te : TE} {p p2 pos pos2 : Pos} (hc : X.calm = true) (hg : Gl X "tuple") (hm : X.mg "tuple" = none) (hg2 : Gl X "reversed") (hm2 : X.mg "reversed" = none) (he : PE X e te)
    (hs : starEach [e] X.env = (false, eval e X.env) :: starEach [] X.env := by rfl)
    (hs2 : starEach [.Call (.Name "reversed" p2) [e] [] pos2] X.env = (false, eval (.Call (.Name "reversed" p2) [e] [] pos2) X.env) :: starEach [] X.env := by rfl) :
    PE X (.Call (.Name "tuple" p) [.Call (.Name "reversed" p2) [e] [] pos2] [] pos) (tTupRt X.K te) := by
  refine ⟨fun pins s σ H Q I h => ?_⟩
  refine Call_ (ld_blt I hg hm boot_tuple (PyProof.Rows.callWith_type1 (args_cons (Call_ (ld_blt I hg2 hm2 PyProof.Rows.boot_reversed (PyProof.Rows.callWith_type1 (args_cons (thn (he.run pins s σ H _ I h) fun u s1 ⟨v, H1, I1, r1, q1⟩ => args_nil ?_) hs) hs rfl))) hs2) hs2 rfl))
  obtain ⟨a, xs, ev, hq, q⟩ := q1
  subst ev
  obtain rfl : u = Value.ref a := r1
  obtain ⟨its, rv, ht, hz⟩ := I1.tuple hq
  have hn : its.toArray.size ≤ sizeLine := by rw [List.size_toArray, ← rv.length]; exact hz
  have hfit : (its.toArray.size : Int) < 2 ^ 63 := by have := sizeLine_eq; omega
  refine call_reversed_tup ht (fun A E Q h => len_tuple ht hfit h) (args_nil ?_)
  have k0 : ∀ b o, s1.heap.get? b = some o → (s1.heap.push (rtObj a ((its.toArray.size : Int) - 1))).get? b = some o := fun b o e => Heap.get?_push_of_some _ e
  have I2 : Inv X pins σ H1 { s1 with heap := s1.heap.push (rtObj a ((its.toArray.size : Int) - 1)), toks := s1.toks + 1 + 1 } := I1.kept (t' := s1.toks + 1 + 1) k0
  obtain ⟨f0, f1, f2, f3, f4, f5⟩ := I1.fpOk (H' := H1) (b := s1.heap.objs.size) (Nat.le_refl _) (I1.hok.fresh (Nat.le_refl _))
  obtain ⟨ol, hol, _⟩ := id ht
  have hne : a ≠ s1.heap.objs.size := Nat.ne_of_lt (Heap.lt_size hol)
  have ht2 : IsTup (s1.heap.push (rtObj a ((its.toArray.size : Int) - 1))) a its.toArray := by
    obtain ⟨o, e, r⟩ := ht
    exact ⟨o, k0 _ _ e, r⟩
  refine call_tuple_rt (s := { s1 with heap := s1.heap.push (rtObj a ((its.toArray.size : Int) - 1)), toks := s1.toks + 1 + 1 }) (I1.ok.hd hc) ⟨_, Heap.get?_push_size _ rfl, rfl, rfl⟩ ht2 hne hn fun h' tk acc hk hi => ?_
  have I3 : Inv X pins σ H1 { s1 with heap := h', toks := tk } := I2.turned (t' := tk) (fun b o hb e => hk b o hb e) f0 f1 f3 f4 f5
  refine ⟨.ref h'.objs.size, upd H1 h'.objs.size (.tup xs.reverse), I3.laid (t' := tk) (fun c o e => Heap.get?_push_of_some _ e) (Nat.le_refl _) (show ObjOk X.prog X.w _ _ _ (.tup xs.reverse) from ⟨by rw [List.length_reverse]; exact hz, acc.toList, vals_rev rv hi, ?_⟩), rfl, q _ (I3.hok.fresh (Nat.le_refl _))⟩
  rw [Array.toArray_toList]
  exact IsTup.new _ _
def cTupRev (c : CE) : CE := fun σ η kv kx => c σ η (fun d η1 => match d with
  | .tup l => kv (.tup l.reverse) η1
  | _ => false) kx
theorem je_tupRt {e : Expr} {c : CE} {p p2 pos pos2 : Pos} (hc : X.calm = true) (hg : Gl X "tuple") (hm : X.mg "tuple" = none) (hg2 : Gl X "reversed") (hm2 : X.mg "reversed" = none) (he : JE X N E e c)
    (hs : starEach [e] X.env = (false, eval e X.env) :: starEach [] X.env := by rfl)
    (hs2 : starEach [.Call (.Name "reversed" p2) [e] [] pos2] X.env = (false, eval (.Call (.Name "reversed" p2) [e] [] pos2) X.env) :: starEach [] X.env := by rfl) :
    JE X N E (.Call (.Name "tuple" p) [.Call (.Name "reversed" p2) [e] [] pos2] [] pos) (cTupRev c) := PE.imp (pe_tupRt hc hg hm hg2 hm2 he hs hs2) fun σ H Q q => by
  obtain ⟨W, σd, kv, kx, rfl, o, s, h, hv, hx⟩ := q
  refine tE.bind o s hx h fun W1 d v x1 o1 r1 s1 hx1 h1 => ?_
  cases d with
  | tup l =>
    obtain ⟨a, vs, rfl, ha, rs⟩ := relTup r1
    refine ⟨a, vs, rfl, SqT.of ha, fun q hq => ?_⟩
    obtain ⟨x2, o2⟩ := o1.lay (ob := .tup vs.reverse) hq
    exact hv _ (.tup l.reverse) (.ref q) (x1.trans o o1 x2) o2 (mkTup upd_same (rs.reverse.mono o1 x2)) h1
  | _ => cases h1
end
end DL

/-! the end: the tables of all top defs are empty -/
namespace DL
open PySem PySem.Spec PyProof.Rows L2 LamX
theorem walk_ofAll {l : PySem.W.OpenLaw} {n k : Nat} {q : Program} {loose : List Str} {XP : (Str → Option Value) → Heap → Prop} {YP : World → Heap → Prop} {d : DefRec} {K : Params → PySem.W.Frag} {CX : World → CXT} {x : Str}
    (hn : l.most = some n) (hn2 : n ≤ sizeLine) (hdf : d.params.defaults = []) (hr : Room k callerA) (hY : ∀ (w : World) (h : Heap), YP w h → (K w.params).In h)
    (F : ∀ (w : World) (mg : Str → Option Value) (fa : Addr) (h : Heap), YP w h → (K w.params).In h → h.Ns mainGlobals mg → mg d.name = some (.ref fa) → (∀ (y : Str) (fb : Addr), ((recsOf q).any fun e => e.name == y) = true → mg y = some (.ref fb) → OwnTab (K w.params) fb h) → LawAtS l w (K w.params) (CX w) k n x mg fa h)
    (hCX : ∀ (w : World) (H : Hp) (s : Shared) (e : Value) (s' : Shared), CX w [] H s (fun _ _ _ => False) e s' → False) :
    PySem.W.WalkO q loose XP YP l.row.toRowW d [] (fun f vs => PySem.call f vs) := by
  refine Att.attach_callB hn hdf fun w s₀ s₁ mg mb fa o pm cd doc a vs ns G Y ho hd hcd hmg hobj hints hlen hbits hg => ?_
  have KX := hY w _ Y
  have own : ∀ (y : Str) (fb : Addr), ((recsOf q).any fun e => e.name == y) = true → mg y = some (.ref fb) → OwnTab (K w.params) fb s₁.heap := fun y fb hrec hmy c P o1 fd1 e dd vs1 sl k1 k2 k3 k4 k5 => by
    obtain ⟨dL, hm, hn1⟩ := List.any_eq_true.mp hrec
    have hn2 : dL.name = y := beq_iff_eq.mp hn1
    obtain ⟨a', o', fd', c', P', h1, h2, h3, h4, h5, h6⟩ := G.T.tab dL hm
    rw [hn2, hmy] at h1
    cases h1
    have g1 := KX _ _ k1
    rw [g1] at h2
    cases h2
    rw [k2] at h3
    cases h3
    rw [k3] at h4
    cases h4
    obtain ⟨⟨oc, vc, e1, _, e3, e4⟩, hP⟩ := h6
    have g2 := KX _ _ k4
    rw [g2] at e1
    cases e1
    cases e3
    rw [k5] at e4
    cases e4
    exact hP
  obtain ⟨fd, cs, sp, hT, nT, C, hb, hsp, hF⟩ := F w mg fa _ Y KX G.T.g hmg own
  exact law_callTs KX G.T.g G.T.b G.T.builtins G.T.nolimit hg hT nT C G.T.bmain hobj hints (Nat.le_trans hlen hn2) hr hF hb (fun H hH hS => hsp H a ns hlen hbits hH hS) fun H e s' => hCX w H s₁ e s'
section
variable {N : Nm} {P : Program} {w : World} {K : PySem.W.Frag} {mg : Str → Option Value} {base : Heap}
/-- a def whose code object is known -/
theorem jf_defc {x qual : Str} {st : Stmt} {f c : Addr} {fd : FuncData} {Ns ps : List Str} {k : Nat} {b : CS} (F : Fun K x qual st f fd) (S : FnScope Ns ps (defScope st)) (hc : fd.code = .ref c)
    (hbody : ∀ (A : Around) (outer : List Env) (s : Shared) (H : Hp) (E : XK), Room k (A.deeper (PyProof.Rows.envOfC qual (defScope st) s.heap.objs.size f (.ref c))) → JB (cxOf (L2.CX P w) P w K mg base Ns qual (defScope st) f (.ref c) A outer s H E) N E (defBody st) b) :
    JF P w K mg base (k + 1) f fd ps N (cDef ps.length Ns.length b) := by
  obtain ⟨oc, od, kV, doc, pm, an, cdv, ct, osl, rfl, lk, hcd⟩ := F.ex
  have hc : cdv = .ref c := hc
  subst hc
  refine fn_of lk hcd S (fun vs H Q E h => ?_) (fun A outer s H vs Q E hr h => ?_)
  · obtain ⟨W, ds, kv, kx, _, _, r, h, _⟩ := h
    unfold cDef at h
    cases e : Nat.beq ds.length ps.length with
    | false => rw [e] at h; cases h
    | true => rw [← r.length]; exact Nat.eq_of_beq_eq_true e
  · obtain ⟨W, ds, kv, kx, rfl, o, r, h, hv, hx⟩ := h
    unfold cDef at h
    cases e : Nat.beq ds.length ps.length with
    | false => rw [e] at h; cases h
    | true =>
      rw [e] at h
      have el : ds.length = ps.length := Nat.eq_of_beq_eq_true e
      refine ⟨_, hbody A outer s W.H E hr, W, startD ps.length Ns.length ds, _, rfl, o, by rw [← el]; exact rel_start r, h, ⟨fun W' σd σ x o' s' e' => hv W' .non .non x o' mkNon e', hv, (fun _ _ _ _ _ _ e' => nomatch e'), (fun _ _ _ _ _ _ e' => nomatch e'), hx⟩⟩
/-- each table's name is told once -/
theorem tab_one {T : List (Addr × Str)} (h : (T.map (·.1)).Nodup) {P : Addr} {q : Str} (hm : (P, q) ∈ T) : ∀ p ∈ T, p.1 = P → p.2 = q := by
  induction T with
  | nil => cases hm
  | cons t T ih =>
    intro p hp e
    have h' := List.nodup_cons.mp (show (t.1 :: T.map (·.1)).Nodup from h)
    rcases List.mem_cons.mp hp with hp | hp
    · rcases List.mem_cons.mp hm with hm | hm
      · rw [hp, ← hm]
      · exact absurd (List.mem_map.mpr ⟨_, hm, by show P = t.1; rw [← e, hp]⟩) h'.1
    · rcases List.mem_cons.mp hm with hm | hm
      · exact absurd (List.mem_map.mpr ⟨p, hp, by rw [e, ← hm]⟩) h'.1
      · exact ih h'.2 hm p hp e
end
section
variable {X : Cx} {N : Nm} {E : XK}
theorem je_tell2 {l : List (Value × Str)} {hm : Nat → Option Str} {x a : Str} {g c P : Addr} {k : Nat} {st : Stmt} {fd : FuncData} {Ng : List Str} {params : Arguments} {body : Expr} {scope : Scope} {cb : CE} {p lpos pos : Pos}
    (F : Fun X.K x x st g fd) (hg : Gl X x) (hmg : X.mg x = some (.ref g)) (hb : L2.Binds X.K fd [a] []) (Sg : FnScope Ng [a] (defScope st)) (hNg : Ng[0]? = some a) (hva : Vis (defScope st) a)
    (hG : ∀ cdv, LamX.GivesTo X Ng x (defScope st) g cdv (defBody st) a (X.env.qual ++ "<lambda>") (TTm X.K l)) (hH : HmOk X.K N l hm)
    (TB : LamX.TabB X.base X.mg c P) (hcode : X.env.code = .ref c) (hmT : (P, X.env.qual ++ "<lambda>") ∈ N.tabs) (hu : ∀ p ∈ N.tabs, p.1 = P → p.2 = X.env.qual ++ "<lambda>") (hr : Room (k + 2) X.A) (L : LamX.LamS X.env.scope scope) (hdef : defaultsOf params X.env = ([], []))
    (hbind : ∀ (q : Str) (cl : List (Str × Addr)) (pm cv ctv : Value), bindArgs (PySem.W.kla_fn "<lambda>" q params body scope cl pm cv ctv) ⟨[], []⟩ = pure [])
    (hbody : ∀ (A : Around) (outer : List Env) (s : Shared) (H : Hp) (E : XK) (f c' : Addr), Room k (A.deeper (LamX.lamEnv X scope s.heap.objs.size f c')) → JE (LamX.lamCx X A outer s H E scope f c') N E body cb)
    (hdb : (x == ("__debug__" : Str)) = false := by decide) (hd : (a == ("__debug__" : Str)) = false := by decide) (hcd : (a == ("__classdict__" : Str)) = false := by decide) :
    JE X N E (.Call (.Name x p) [.Lambda params body scope lpos] [] pos) (cTold hm cb) := by
  obtain ⟨oc, od, kV, doc, pm, an, cdv, ct, osl, rfl, lk, hco⟩ := F.ex
  exact je_told hg hmg F.kp lk hco hb Sg hNg hva (hG cdv) hH TB hcode hmT hu hr L hdef hbind hbody hdb hd hcd
end
end DL

/-! a for whose walk is cut into pieces -/
namespace DL
open PySem PySem.Spec L2
/-- a place within a walk: what is frozen meanwhile, what is left to be walked, the state -/
structure Pc where
  nb : Nat
  fz : Option (Nat × List D)
  rest : List D
  st : SD × Hd
def unZ (fz : Option (Nat × List D)) (η : Hd) : Hd := match fz with
  | none => η
  | some (r, l) => unfAt r l η
def KS.thawZ (k : KS) (fz : Option (Nat × List D)) : KS := ⟨fun σ η => k.nx σ (unZ fz η), fun d η => k.rt d (unZ fz η), fun σ η => k.bk σ (unZ fz η), fun σ η => k.ct σ (unZ fz η), fun x η => k.xc x (unZ fz η)⟩
theorem thawZ_eq (k : KS) (it : Its) : k.thaw it = k.thawZ it.fz := rfl
def sameFz : Option (Nat × List D) → Option (Nat × List D) → Bool
  | none, none => true
  | some (a, l), some (b, m) => match Nat.beq a b with
    | true => eqL (same 8) l m
    | false => false
  | _, _ => false
theorem same_eqL {l m : List D} (h : eqL (same 8) l m = true) : l = m := eqL_eq (fun a b => same_eq 8 a b) h
theorem sameFz_eq {a b : Option (Nat × List D)} (h : sameFz a b = true) : a = b := by
  cases a with
  | none => cases b with
    | none => rfl
    | some _ => cases h
  | some p =>
    obtain ⟨x, l⟩ := p
    cases b with
    | none => cases h
    | some q =>
      obtain ⟨y, m⟩ := q
      simp only [sameFz] at h
      cases e : Nat.beq x y with
      | false => rw [e] at h; cases h
      | true =>
        rw [e] at h
        rw [Nat.eq_of_beq_eq_true e, same_eqL h]
/-- c stands here -/
def Pc.here (c : Pc) (fz : Option (Nat × List D)) (nb : Nat) (ds : List D) (σ : SD) (η : Hd) : Bool := match Nat.beq nb c.nb, Nat.ble nb c.st.2.nx with
  | true, true => match eqL (same 8) ds c.rest with
    | true => match sameFz fz c.fz with
      | true => leS c.st σ η
      | false => false
    | false => false
  | _, _ => false
/-- the walk up to the next place that is cut -/
def forDc (g : CG) (b : CS) (k : KS) (cut : Nat → List Pc) (fz : Option (Nat × List D)) (nb : Nat) : List D → Nat → SD → Hd → Bool
  | [], _, σ, η => k.nx σ η
  | d :: ds, i, σ, η => match cut i with
    | [] => g d σ η (fun σ1 η1 => b σ1 η1 { k with nx := forDc g b k cut fz nb ds (Nat.succ i), ct := forDc g b k cut fz nb ds (Nat.succ i), bk := k.nx }) k.xc
    | c :: cs => (c :: cs).any fun c => c.here fz nb (d :: ds) σ η
/-- one turn, then the walk up to the next such place -/
def forGo (g : CG) (b : CS) (k : KS) (cut : Nat → List Pc) (fz : Option (Nat × List D)) (nb : Nat) (i : Nat) : List D → SD → Hd → Bool
  | [], _, _ => false
  | d :: ds, σ, η => g d σ η (fun σ1 η1 => b σ1 η1 { k with nx := forDc g b k cut fz nb ds (Nat.succ i), ct := forDc g b k cut fz nb ds (Nat.succ i), bk := k.nx }) k.xc
/-- all places go on -/
def PcsOk (g : CG) (b : CS) (k : KS) (cut : Nat → List Pc) : Prop := ∀ i, ∀ c ∈ cut i, forGo g b (k.thawZ c.fz) cut c.fz c.nb i c.rest c.st.1 c.st.2 = true
def sForC (i : CI) (g : CG) (b : CS) (cut : Nat → List Pc) : CS := fun σ η k => i σ η (fun it η1 => forDc g b (k.thaw it) cut it.fz η1.nx it.l 0 σ (it.fr η1)) k.xc
section
variable {X : Cx} {N : Nm} {E : XK} {m : Nat}
theorem jk_forC {tg iter : Expr} {body rest : List Stmt} {ci : CI} {g : CG} {b : CS} {pos : Pos} {c : CK} (cut : Nat → List Pc) (hp : PassesOwn (model X.prog X.w) X.A X.env X.xe) (hc : X.calm = true) (hi : JI X N E tg iter ci) (hg : JG X N E tg g) (hb : JB X N E body b)
    (hr : JK X N E m rest c) (ok : PcsOk g b { kT m with nx := c } cut) (hs : ∀ x, foldedSetIterable iter X.env x = pure x := by intro _; rfl) :
    JK X N E m (.For tg iter body [] pos :: rest) (fun σ η => sForC ci g b cut σ η { kT m with nx := c }) := PSs.imp (pss_cons (ps_for hp hc hi hg hb hs) hr) fun Z σ H q => by
  obtain ⟨W0, W, σd, o0, h0, x, rfl, o, s, h, hk⟩ := q
  have hk' := hk.mono o0 o x
  have hkk : Sk X.K N E W { kT m with nx := c } { Z with nx := fun σ' H' => tK X.K N E m c Z σ' H' } := ⟨fun W' σd' σ' x' o' s' e' => ⟨W0, W', σd', o0, h0, x.trans o0 o x', rfl, o', s', e', hk⟩, hk'.rt, hk'.bk, hk'.ct, hk'.xc⟩
  refine ⟨W, σd, _, _, rfl, o, s, h, fun W1 it J x1 o1 fz wk h1 => ?_, hkk.xc⟩
  obtain ⟨xf, of⟩ := Its.froze o1 fz
  have enx : (it.w W1).η.nx = W1.η.nx := by
    unfold Its.w Its.fr
    cases it.fz with
    | none => rfl
    | some p => rfl
  have hk1 := (hkk.mono o o1 x1).thaw o1 fz
  have s1 : RelS (it.w W1) σd σ := ((s.mono o x1).mono o1 xf)
  generalize hK : KS.thaw { kT m with nx := c } it = k1 at hk1 h1
  refine ⟨fun i mm σ2 H2 => mm = it.l.length - i ∧ i ≤ it.l.length ∧ ∃ W2 σd2, W2.H = H2 ∧ Ext (it.w W1) W2 ∧ W2.Ok X.K N.toNames ∧ RelS W2 σd2 σ2 ∧ forDc g b k1 cut it.fz W1.η.nx (it.l.drop i) i σd2 W2.η = true,
    ⟨it.l.length, by omega, Nat.zero_le _, it.w W1, σd, rfl, Ext.refl _, of, s1, h1⟩, ?_⟩
  rintro i mm σ2 H2 ⟨rfl, hi, W2, σd2, rfl, x2, o2, s2, h2⟩
  by_cases hlt : i < it.l.length
  · have ed : it.l.drop i = it.l[i] :: it.l.drop (i + 1) := List.drop_eq_getElem_cons hlt
    -- a state from which one turn is made
    have key : ∃ W3 σd3, W3.H = W2.H ∧ Ext (it.w W1) W3 ∧ W3.Ok X.K N.toNames ∧ RelS W3 σd3 σ2 ∧ forGo g b k1 cut it.fz W1.η.nx i (it.l.drop i) σd3 W3.η = true := by
      rw [ed] at h2 ⊢
      unfold forDc at h2
      cases ec : cut i with
      | nil => rw [ec] at h2; exact ⟨W2, σd2, rfl, x2, o2, s2, h2⟩
      | cons p ps =>
        rw [ec] at h2
        obtain ⟨q, hm, hq⟩ := List.any_eq_true.mp h2
        unfold Pc.here at hq
        cases e0 : Nat.beq W1.η.nx q.nb with
        | false => rw [e0] at hq; cases hq
        | true =>
         cases e1 : Nat.ble W1.η.nx q.st.2.nx with
         | false => rw [e0, e1] at hq; cases hq
         | true =>
          rw [e0, e1] at hq
          simp only at hq
          cases e2 : eqL (same 8) (it.l[i] :: it.l.drop (i + 1)) q.rest with
          | false => rw [e2] at hq; cases hq
          | true =>
            rw [e2] at hq
            simp only at hq
            cases e3 : sameFz it.fz q.fz with
            | false => rw [e3] at hq; cases hq
            | true =>
              rw [e3] at hq
              simp only at hq
              have z2 := same_eqL e2
              have z3 := sameFz_eq e3
              obtain ⟨x', o', s'⟩ := leS_ok o2 x2 s2 hq (by rw [enx]; exact Nat.le_of_ble_eq_true e1)
              refine ⟨⟨W2.μ, q.st.2, W2.H⟩, q.st.1, rfl, x', o', s', ?_⟩
              have := ok i q (by rw [ec]; exact hm)
              rw [← z3, ← z2, ← thawZ_eq, hK, ← Nat.eq_of_beq_eq_true e0] at this
              exact this
    obtain ⟨W2', σd2', e2, x2', o2', s2', h2'⟩ := key
    clear h2
    rw [← e2]
    refine .inr ⟨wk.go W2' i (x2'.sty of) o2' hlt, fun σ3 H3 => ∃ W3 σd3, W3.H = H3 ∧ Ext (it.w W1) W3 ∧ W3.Ok X.K N.toNames ∧ RelS W3 σd3 σ3 ∧ forDc g b k1 cut it.fz W1.η.nx (it.l.drop (i + 1)) (i + 1) σd3 W3.η = true, fun σ3 H3 p3 => ⟨it.l.length - (i + 1), by omega, rfl, hlt, p3⟩, fun y H3 hy => ?_⟩
    obtain ⟨W3, d, e3, x3, o3, eH, eη, r3⟩ := wk.yld W2' i y H3 (x2'.sty of) o2' hlt hy
    subst eH
    have ed2 : it.l.drop i = d :: it.l.drop (i + 1) := by
      rw [ed]
      have := List.getElem?_eq_getElem hlt
      rw [this] at e3
      rw [Option.some.inj e3]
    rw [ed2] at h2'
    have x03 := x2'.trans of o2' x3
    have hk3 := hk1.mono of o3 x03
    refine ⟨W3, d, σd2', _, k1.xc, rfl, o3, r3, s2'.mono o2' x3, (by rw [eη]; exact h2'), fun W4 σd4 σ4 x4 o4 s4 h4 => ?_, hk3.xc⟩
    have hk4 := hk3.mono o3 o4 x4
    have x04 := x03.trans of o3 x4
    exact ⟨W4, σd4, _, rfl, o4, s4, h4, ⟨fun W5 σd5 σ5 x5 o5 s5 h5 => ⟨W5, σd5, rfl, x04.trans of o4 x5, o5, s5, h5⟩, hk4.rt, hk4.nx, fun W5 σd5 σ5 x5 o5 s5 h5 => ⟨W5, σd5, rfl, x04.trans of o4 x5, o5, s5, h5⟩, hk4.xc⟩⟩
  · have e : i = it.l.length := by omega
    subst e
    rw [List.drop_length] at h2
    exact .inl ⟨wk.stop W2 (x2.sty of) o2, hk1.nx W2 σd2 σ2 x2 o2 s2 h2⟩
end
end DL


set_option Elab.async false
set_option linter.all false
set_option maxRecDepth 100000
set_option maxHeartbeats 4000000
namespace L24
open PySem PySem.Spec L2 DL
def topS (i : Nat) : Stmt := PySem.Challenge.pw_grouphall_k24_rings_of_beads.main.body.getD i (.Pass ⟨0, 0, 0, 0⟩)
abbrev s_shared : Stmt := topS 1
theorem sc_shared : FnScope ["one", "other"] ["one", "other"] (defScope s_shared) := ⟨rfl, rfl, rfl, by decide +kernel, rfl, by decide +kernel, by decide +kernel⟩
abbrev s_power : Stmt := topS 3
theorem sc_power : FnScope ["base", "many", "found", "k"] ["base", "many"] (defScope s_power) := ⟨rfl, rfl, rfl, by decide +kernel, rfl, by decide +kernel, by decide +kernel⟩
abbrev s_necklaces : Stmt := topS 4
theorem sc_necklaces : FnScope ["many", "colours", "total", "k"] ["many", "colours"] (defScope s_necklaces) := ⟨rfl, rfl, rfl, by decide +kernel, rfl, by decide +kernel, by decide +kernel⟩
abbrev s_bracelets : Stmt := topS 5
theorem sc_bracelets : FnScope ["many", "colours", "over"] ["many", "colours"] (defScope s_bracelets) := ⟨rfl, rfl, rfl, by decide +kernel, rfl, by decide +kernel, by decide +kernel⟩
abbrev s_plain_rings : Stmt := topS 6
theorem sc_plain_rings : FnScope ["many", "colours", "total", "k"] ["many", "colours"] (defScope s_plain_rings) := ⟨rfl, rfl, rfl, by decide +kernel, rfl, by decide +kernel, by decide +kernel⟩
abbrev s_weight : Stmt := topS 7
theorem sc_weight : FnScope ["number", "found", "prime"] ["number"] (defScope s_weight) := ⟨rfl, rfl, rfl, by decide +kernel, rfl, by decide +kernel, by decide +kernel⟩
abbrev s_least_rings : Stmt := topS 8
theorem sc_least_rings : FnScope ["many", "colours", "found", "row", "k"] ["many", "colours"] (defScope s_least_rings) := ⟨rfl, rfl, rfl, by decide +kernel, rfl, by decide +kernel, by decide +kernel⟩
abbrev s__law_flat : Stmt := topS 10
theorem sc__law_flat : FnScope ["rows", "found", "row"] ["rows"] (defScope s__law_flat) := ⟨rfl, rfl, rfl, by decide +kernel, rfl, by decide +kernel, by decide +kernel⟩
abbrev s__law_dice : Stmt := topS 11
theorem sc__law_dice : FnScope ["cell"] ["cell"] (defScope s__law_dice) := ⟨rfl, rfl, rfl, by decide +kernel, rfl, by decide +kernel, by decide +kernel⟩
abbrev s__law_roll : Stmt := topS 12
theorem sc__law_roll : FnScope ["dice", "many", "found"] ["dice", "many"] (defScope s__law_roll) := ⟨rfl, rfl, rfl, by decide +kernel, rfl, by decide +kernel, by decide +kernel⟩
abbrev s__law_rounds : Stmt := topS 13
theorem sc__law_rounds : FnScope ["script", "most", "cells", "cell"] ["script", "most"] (defScope s__law_rounds) := ⟨rfl, rfl, rfl, by decide +kernel, rfl, by decide +kernel, by decide +kernel⟩
abbrev s_law : Stmt := topS 14
theorem sc_law : FnScope ["script", "dice", "many", "colours", "rows", "k", "row", "round_there", "over", "plain", "turns_there", "number", "due", "left", "prime", "colour", "one"] ["script"] (defScope s_law) := ⟨rfl, rfl, rfl, by decide +kernel, rfl, by decide +kernel, by decide +kernel⟩
structure Hy (K : PySem.W.Frag) (mg : Str → Option Value) where
  f_shared : Addr
  fd_shared : FuncData
  F_shared : Fun K "shared" "shared" s_shared f_shared fd_shared
  m_shared : mg "shared" = some (.ref f_shared)
  b_shared : Binds K fd_shared ["one", "other"] []
  f_power : Addr
  fd_power : FuncData
  F_power : Fun K "power" "power" s_power f_power fd_power
  m_power : mg "power" = some (.ref f_power)
  b_power : Binds K fd_power ["base", "many"] []
  f_necklaces : Addr
  fd_necklaces : FuncData
  F_necklaces : Fun K "necklaces" "necklaces" s_necklaces f_necklaces fd_necklaces
  m_necklaces : mg "necklaces" = some (.ref f_necklaces)
  b_necklaces : Binds K fd_necklaces ["many", "colours"] []
  f_bracelets : Addr
  fd_bracelets : FuncData
  F_bracelets : Fun K "bracelets" "bracelets" s_bracelets f_bracelets fd_bracelets
  m_bracelets : mg "bracelets" = some (.ref f_bracelets)
  b_bracelets : Binds K fd_bracelets ["many", "colours"] []
  f_plain_rings : Addr
  fd_plain_rings : FuncData
  F_plain_rings : Fun K "plain_rings" "plain_rings" s_plain_rings f_plain_rings fd_plain_rings
  m_plain_rings : mg "plain_rings" = some (.ref f_plain_rings)
  b_plain_rings : Binds K fd_plain_rings ["many", "colours"] []
  f_weight : Addr
  fd_weight : FuncData
  F_weight : Fun K "weight" "weight" s_weight f_weight fd_weight
  m_weight : mg "weight" = some (.ref f_weight)
  b_weight : Binds K fd_weight ["number"] []
  f_least_rings : Addr
  fd_least_rings : FuncData
  F_least_rings : Fun K "least_rings" "least_rings" s_least_rings f_least_rings fd_least_rings
  m_least_rings : mg "least_rings" = some (.ref f_least_rings)
  b_least_rings : Binds K fd_least_rings ["many", "colours"] []
  f__law_flat : Addr
  fd__law_flat : FuncData
  F__law_flat : Fun K "_law_flat" "_law_flat" s__law_flat f__law_flat fd__law_flat
  m__law_flat : mg "_law_flat" = some (.ref f__law_flat)
  b__law_flat : Binds K fd__law_flat ["rows"] []
  f__law_dice : Addr
  fd__law_dice : FuncData
  F__law_dice : Fun K "_law_dice" "_law_dice" s__law_dice f__law_dice fd__law_dice
  m__law_dice : mg "_law_dice" = some (.ref f__law_dice)
  b__law_dice : Binds K fd__law_dice ["cell"] []
  f__law_roll : Addr
  fd__law_roll : FuncData
  F__law_roll : Fun K "_law_roll" "_law_roll" s__law_roll f__law_roll fd__law_roll
  m__law_roll : mg "_law_roll" = some (.ref f__law_roll)
  b__law_roll : Binds K fd__law_roll ["dice", "many"] []
  f__law_rounds : Addr
  fd__law_rounds : FuncData
  F__law_rounds : Fun K "_law_rounds" "_law_rounds" s__law_rounds f__law_rounds fd__law_rounds
  m__law_rounds : mg "_law_rounds" = some (.ref f__law_rounds)
  b__law_rounds : Binds K fd__law_rounds ["script", "most"] []
  z_abs : mg "abs" = none
  z_int : mg "int" = none
  z_len : mg "len" = none
  z_list : mg "list" = none
  z_min : mg "min" = none
  z_range : mg "range" = none
  z_reversed : mg "reversed" = none
  z_sorted : mg "sorted" = none
  z_sum : mg "sum" = none
  z_tuple : mg "tuple" = none
  tc_necklaces : Addr
  tP_necklaces : Addr
  cd_necklaces : fd_necklaces.code = .ref tc_necklaces
  tc_plain_rings : Addr
  tP_plain_rings : Addr
  cd_plain_rings : fd_plain_rings.code = .ref tc_plain_rings
  nd : [tP_necklaces, tP_plain_rings].Nodup
section
variable {P : Program} {w : World} {K : PySem.W.Frag} {mg : Str → Option Value} {base : Heap}
def nm (hy : Hy K mg) : Nm := { fld := fun _ => "", cls := fun j => match j with  | _ => 0, tabs := [(hy.tP_necklaces, "necklaces.<locals>.<genexpr>"), (hy.tP_plain_rings, "plain_rings.<locals>.<genexpr>")], xf := fun _ => "" }
structure Tbs (hy : Hy K mg) (base : Heap) : Prop where
  x_x : True
  t_necklaces : LamX.TabB base mg hy.tc_necklaces hy.tP_necklaces
  t_plain_rings : LamX.TabB base mg hy.tc_plain_rings hy.tP_plain_rings
theorem Tbs.m_necklaces {hy : Hy K mg} (tb : Tbs hy base) : (hy.tP_necklaces, ("necklaces.<locals>.<genexpr>" : Str)) ∈ (nm hy).tabs := List.mem_cons_self
theorem Tbs.u_necklaces {hy : Hy K mg} (tb : Tbs hy base) : ∀ p ∈ (nm hy).tabs, p.1 = hy.tP_necklaces → p.2 = ("necklaces.<locals>.<genexpr>" : Str) := tab_one (T := (nm hy).tabs) hy.nd tb.m_necklaces
theorem Tbs.m_plain_rings {hy : Hy K mg} (tb : Tbs hy base) : (hy.tP_plain_rings, ("plain_rings.<locals>.<genexpr>" : Str)) ∈ (nm hy).tabs := (List.mem_cons_of_mem _ List.mem_cons_self)
theorem Tbs.u_plain_rings {hy : Hy K mg} (tb : Tbs hy base) : ∀ p ∈ (nm hy).tabs, p.1 = hy.tP_plain_rings → p.2 = ("plain_rings.<locals>.<genexpr>" : Str) := tab_one (T := (nm hy).tabs) hy.nd tb.m_plain_rings
def b_shared : CS := (sSeq (sWhile (cTst (cOp fNe (cVar 1) (cC (.int 0)))) (sPar 0 1 (cCons (cVar 1) (cCons (cOp fMod (cVar 0) (cVar 1)) cNil)))) (sRet (cVar 0)))
theorem g0_shared (hy : Hy K mg) (tb : Tbs hy base) : JF P w K mg base 1 hy.f_shared hy.fd_shared ["one", "other"] (nm hy) (cDef 2 2 b_shared) :=
   jf_def (k := 0) hy.F_shared sc_shared fun cdv A outer s H E hr => (jb_cons (js_while (passes_of rfl) (jt_cmp (opd_ne hr.units) (je_var 1 (pv 1)) je_int (by rfl)) (jb_one (js_par (i := 0) (j := 1) rfl sc_shared.nd rfl rfl (by decide) rfl rfl (ja_cons (je_var 1 (pv 1)) (ja_cons (je_op opd_mod (je_var 0 (pv 0)) (je_var 1 (pv 1))) ja_nil)) (by first | rfl | decide +kernel | with_unfolding_all rfl)))) (jb_one (js_ret (je_var 0 (pv 0)))))
abbrev F_shared : CF := (cDef 2 2 b_shared)
theorem g_shared (hy : Hy K mg) (tb : Tbs hy base) : JF P w K mg base 1 hy.f_shared hy.fd_shared ["one", "other"] (nm hy) F_shared := g0_shared hy tb
def b_power : CS := (sSeq (sAsg (cC (.int 1)) (gNm 2)) (sSeq (sFor (ciR1 (cCons (cVar 1) cNil)) (gNm 3) (sAug 2 (fI2c mulOk imul) (cVar 0))) (sRet (cVar 2))))
theorem g0_power (hy : Hy K mg) (tb : Tbs hy base) : JF P w K mg base 1 hy.f_power hy.fd_power ["base", "many"] (nm hy) (cDef 2 4 b_power) :=
   jf_def (k := 0) hy.F_power sc_power fun cdv A outer s H E hr => (jb_cons (js_set (i := 2) sc_power.nd rfl (by first | exact .inl rfl | exact .inr rfl) je_int) (jb_cons (js_for (passes_of rfl) rfl (ji_range1 (by rfl) hy.z_range (ja_cons (je_var 1 (pv 1)) ja_nil)) (jg_name (pg_name (i := 3) sc_power.nd rfl (by first | exact .inl rfl | exact .inr rfl))) (jb_one (js_aug (i := 2) sc_power.nd rfl (by first | exact .inl rfl | exact .inr rfl) (je_var 0 (pv 0)) opd_imul))) (jb_one (js_ret (je_var 2 (pv 2))))))
abbrev F_power : CF := (cPure (cDef 2 4 b_power))
theorem g_power (hy : Hy K mg) (tb : Tbs hy base) : JF P w K mg base 1 hy.f_power hy.fd_power ["base", "many"] (nm hy) F_power := jf_pure (g0_power hy tb)
def b_necklaces : CS := (sSeq (sAsg (cSumG (ciR2 (cCons (cC (.int 1)) (cCons (cOp fAdd (cVar 0) (cC (.int 1))) cNil))) (gNm 3) ctYes (cCall F_power (cCons (cVar 1) (cCons (cCall F_shared (cCons (cVar 0) (cCons (cVar 3) cNil))) cNil))) [3]) (gNm 2)) (sRet (cOp fDiv (cVar 2) (cVar 0))))
theorem g0_necklaces (hy : Hy K mg) (tb : Tbs hy base) : JF P w K mg base 3 hy.f_necklaces hy.fd_necklaces ["many", "colours"] (nm hy) (cDef 2 4 b_necklaces) :=
  have g_power := g_power (P := P) (w := w) (base := base) hy tb; have g_shared := g_shared (P := P) (w := w) (base := base) hy tb; jf_defc (k := 2) hy.F_necklaces sc_necklaces hy.cd_necklaces fun A outer s H E hr => (jb_cons (js_set (i := 2) sc_necklaces.nd rfl (by first | exact .inl rfl | exact .inr rfl) (je_gsum (E' := E0) (k := 1) (own := [("k", 3)]) (by rfl) hy.z_sum (GxD.mk (k := 1) (hr.mono (by decide)) sc_necklaces.nd ⟨_, _, tb.t_necklaces, rfl, tb.m_necklaces, tb.u_necklaces⟩ (by decide +kernel) (ji_range2 (by rfl) hy.z_range (ja_cons je_int (ja_cons (je_op opd_add (je_var 0 (pv 0)) je_int) ja_nil))) (blkOk_by (N := ["many", "colours", "total", "k"]) (sc := defScope s_necklaces) (own := [("k", 3)]) (by decide +kernel)) (fun _ _ _ _ _ _ hrG => (jgw_name (pg_name (i := 3) sc_necklaces.nd rfl (by first | exact .inl rfl | exact .inr rfl)))) (fun _ _ _ _ _ _ hrG => jts_nil) (fun _ _ _ _ _ _ hrG => (je_call g_power (hrG.mono (by decide)) (by rfl) hy.m_power hy.F_power.kp hy.b_power passL (ja_cons (je_var 1 (pv 1)) (ja_cons (je_call g_shared (hrG.mono (by decide)) (by rfl) hy.m_shared hy.F_shared.kp hy.b_shared passL (ja_cons (je_var 0 (pv 0)) (ja_cons (je_var 3 (pv 3)) ja_nil))) ja_nil)))) (fun _ => rfl)))) (jb_one (js_ret (je_op opd_div (je_var 2 (pv 2)) (je_var 0 (pv 0))))))
abbrev F_necklaces : CF := (cPure (cDef 2 4 b_necklaces))
theorem g_necklaces (hy : Hy K mg) (tb : Tbs hy base) : JF P w K mg base 3 hy.f_necklaces hy.fd_necklaces ["many", "colours"] (nm hy) F_necklaces := jf_pure (g0_necklaces hy tb)
def b_bracelets : CS := (sSeq (sIf (cTst (cOp fEq (cOp fMod (cVar 0) (cC (.int 2))) (cC (.int 1)))) (sAsg (cOp fMul (cVar 0) (cCall F_power (cCons (cVar 1) (cCons (cOp fDiv (cOp fAdd (cVar 0) (cC (.int 1))) (cC (.int 2))) cNil)))) (gNm 2)) (sAsg (cOp fMul (cOp fDiv (cVar 0) (cC (.int 2))) (cOp fAdd (cCall F_power (cCons (cVar 1) (cCons (cOp fDiv (cVar 0) (cC (.int 2))) cNil))) (cCall F_power (cCons (cVar 1) (cCons (cOp fAdd (cOp fDiv (cVar 0) (cC (.int 2))) (cC (.int 1))) cNil))))) (gNm 2))) (sRet (cOp fDiv (cOp fAdd (cOp fMul (cCall F_necklaces (cCons (cVar 0) (cCons (cVar 1) cNil))) (cVar 0)) (cVar 2)) (cOp fMul (cC (.int 2)) (cVar 0)))))
theorem g0_bracelets (hy : Hy K mg) (tb : Tbs hy base) : JF P w K mg base 4 hy.f_bracelets hy.fd_bracelets ["many", "colours"] (nm hy) (cDef 2 3 b_bracelets) :=
  have g_necklaces := g_necklaces (P := P) (w := w) (base := base) hy tb; have g_power := g_power (P := P) (w := w) (base := base) hy tb; jf_def (k := 3) hy.F_bracelets sc_bracelets fun cdv A outer s H E hr => (jb_cons (js_if (jt_cmp (opd_eq hr.units) (je_op opd_mod (je_var 0 (pv 0)) je_int) je_int (by rfl)) (jb_one (js_set (i := 2) sc_bracelets.nd rfl (by first | exact .inl rfl | exact .inr rfl) (je_op opd_mul (je_var 0 (pv 0)) (je_call g_power (hr.mono (by decide)) (by rfl) hy.m_power hy.F_power.kp hy.b_power (passes_call (takes_of rfl rfl rfl rfl) (fun _ _ _ _ h => h)) (ja_cons (je_var 1 (pv 1)) (ja_cons (je_op opd_div (je_op opd_add (je_var 0 (pv 0)) je_int) je_int) ja_nil)))))) (jb_one (js_set (i := 2) sc_bracelets.nd rfl (by first | exact .inl rfl | exact .inr rfl) (je_op opd_mul (je_op opd_div (je_var 0 (pv 0)) je_int) (je_op opd_add (je_call g_power (hr.mono (by decide)) (by rfl) hy.m_power hy.F_power.kp hy.b_power (passes_call (takes_of rfl rfl rfl rfl) (fun _ _ _ _ h => h)) (ja_cons (je_var 1 (pv 1)) (ja_cons (je_op opd_div (je_var 0 (pv 0)) je_int) ja_nil))) (je_call g_power (hr.mono (by decide)) (by rfl) hy.m_power hy.F_power.kp hy.b_power (passes_call (takes_of rfl rfl rfl rfl) (fun _ _ _ _ h => h)) (ja_cons (je_var 1 (pv 1)) (ja_cons (je_op opd_add (je_op opd_div (je_var 0 (pv 0)) je_int) je_int) ja_nil)))))))) (jb_one (js_ret (je_op opd_div (je_op opd_add (je_op opd_mul (je_call g_necklaces (hr.mono (by decide)) (by rfl) hy.m_necklaces hy.F_necklaces.kp hy.b_necklaces (passes_call (takes_of rfl rfl rfl rfl) (fun _ _ _ _ h => h)) (ja_cons (je_var 0 (pv 0)) (ja_cons (je_var 1 (pv 1)) ja_nil))) (je_var 0 (pv 0))) (je_var 2 (pv 2))) (je_op opd_mul je_int (je_var 0 (pv 0)))))))
abbrev F_bracelets : CF := (cPure (cDef 2 3 b_bracelets))
theorem g_bracelets (hy : Hy K mg) (tb : Tbs hy base) : JF P w K mg base 4 hy.f_bracelets hy.fd_bracelets ["many", "colours"] (nm hy) F_bracelets := jf_pure (g0_bracelets hy tb)
def b_weight : CS := (sSeq (sAsg (cTup (cCons (cC (.int 1)) (cCons (cC (.int 2)) cNil))) (gTp 2 (gsCons (gNm 1) (gsCons (gNm 2) gsNil)))) (sSeq (sWhile (cTst (cOp (fB2 igt) (cVar 0) (cC (.int 1)))) (sSeq (sIf (cTst (cOp fEq (cOp fMod (cVar 0) (cVar 2)) (cC (.int 0)))) (sSeq (sAug 0 (fI2c divOk idiv) (cVar 2)) (sSeq (sIf (cTst (cOp fEq (cOp fMod (cVar 0) (cVar 2)) (cC (.int 0)))) (sRet (cC (.int 0))) sNil) (sAsg (cNeg (cVar 1)) (gNm 1)))) sNil) (sAug 2 (fI2 iadd) (cC (.int 1))))) (sRet (cVar 1))))
theorem g0_weight (hy : Hy K mg) (tb : Tbs hy base) : JF P w K mg base 1 hy.f_weight hy.fd_weight ["number"] (nm hy) (cDef 1 3 b_weight) :=
   jf_def (k := 0) hy.F_weight sc_weight fun cdv A outer s H E hr => (jb_cons (js_asg (je_tup (ja_cons je_int (ja_cons je_int ja_nil))) (jg_tup rfl (jgs_cons (jg_name (pg_name (i := 1) sc_weight.nd rfl (by first | exact .inl rfl | exact .inr rfl))) (jgs_cons (jg_name (pg_name (i := 2) sc_weight.nd rfl (by first | exact .inl rfl | exact .inr rfl))) jgs_nil)))) (jb_cons (js_while (passes_of rfl) (jt_cmp opd_gt (je_var 0 (pv 0)) je_int (by rfl)) (jb_cons (js_if (jt_cmp (opd_eq hr.units) (je_op opd_mod (je_var 0 (pv 0)) (je_var 2 (pv 2))) je_int (by rfl)) (jb_cons (js_aug (i := 0) sc_weight.nd rfl (by first | exact .inl rfl | exact .inr rfl) (je_var 2 (pv 2)) opd_idiv) (jb_cons (js_if (jt_cmp (opd_eq hr.units) (je_op opd_mod (je_var 0 (pv 0)) (je_var 2 (pv 2))) je_int (by rfl)) (jb_one (js_ret je_int)) jb_nil) (jb_one (js_set (i := 1) sc_weight.nd rfl (by first | exact .inl rfl | exact .inr rfl) (je_neg (je_var 1 (pv 1))))))) jb_nil) (jb_one (js_aug (i := 2) sc_weight.nd rfl (by first | exact .inl rfl | exact .inr rfl) je_int opd_iadd)))) (jb_one (js_ret (je_var 1 (pv 1))))))
abbrev F_weight : CF := (cPure (cDef 1 3 b_weight))
theorem g_weight (hy : Hy K mg) (tb : Tbs hy base) : JF P w K mg base 1 hy.f_weight hy.fd_weight ["number"] (nm hy) F_weight := jf_pure (g0_weight hy tb)
def b_plain_rings : CS := (sSeq (sAsg (cSumG (ciR2 (cCons (cC (.int 1)) (cCons (cOp fAdd (cVar 0) (cC (.int 1))) cNil))) (gNm 3) (cTst (cOp fEq (cOp fMod (cVar 0) (cVar 3)) (cC (.int 0)))) (cOp fMul (cCall F_weight (cCons (cOp fDiv (cVar 0) (cVar 3)) cNil)) (cCall F_power (cCons (cVar 1) (cCons (cVar 3) cNil)))) [3]) (gNm 2)) (sRet (cOp fDiv (cVar 2) (cVar 0))))
theorem g0_plain_rings (hy : Hy K mg) (tb : Tbs hy base) : JF P w K mg base 3 hy.f_plain_rings hy.fd_plain_rings ["many", "colours"] (nm hy) (cDef 2 4 b_plain_rings) :=
  have g_power := g_power (P := P) (w := w) (base := base) hy tb; have g_weight := g_weight (P := P) (w := w) (base := base) hy tb; jf_defc (k := 2) hy.F_plain_rings sc_plain_rings hy.cd_plain_rings fun A outer s H E hr => (jb_cons (js_set (i := 2) sc_plain_rings.nd rfl (by first | exact .inl rfl | exact .inr rfl) (je_gsum (E' := E0) (k := 1) (own := [("k", 3)]) (by rfl) hy.z_sum (GxD.mk (k := 1) (hr.mono (by decide)) sc_plain_rings.nd ⟨_, _, tb.t_plain_rings, rfl, tb.m_plain_rings, tb.u_plain_rings⟩ (by decide +kernel) (ji_range2 (by rfl) hy.z_range (ja_cons je_int (ja_cons (je_op opd_add (je_var 0 (pv 0)) je_int) ja_nil))) (blkOk_by (N := ["many", "colours", "total", "k"]) (sc := defScope s_plain_rings) (own := [("k", 3)]) (by decide +kernel)) (fun _ _ _ _ _ _ hrG => (jgw_name (pg_name (i := 3) sc_plain_rings.nd rfl (by first | exact .inl rfl | exact .inr rfl)))) (fun _ _ _ _ _ _ hrG => (jts_one (jt_cmp (opd_eq hrG.units) (je_op opd_mod (je_var 0 (pv 0)) (je_var 3 (pv 3))) je_int (by rfl)))) (fun _ _ _ _ _ _ hrG => (je_op opd_mul (je_call g_weight (hrG.mono (by decide)) (by rfl) hy.m_weight hy.F_weight.kp hy.b_weight passL (ja_cons (je_op opd_div (je_var 0 (pv 0)) (je_var 3 (pv 3))) ja_nil)) (je_call g_power (hrG.mono (by decide)) (by rfl) hy.m_power hy.F_power.kp hy.b_power passL (ja_cons (je_var 1 (pv 1)) (ja_cons (je_var 3 (pv 3)) ja_nil))))) (fun _ => rfl)))) (jb_one (js_ret (je_op opd_div (je_var 2 (pv 2)) (je_var 0 (pv 0))))))
abbrev F_plain_rings : CF := (cPure (cDef 2 4 b_plain_rings))
theorem g_plain_rings (hy : Hy K mg) (tb : Tbs hy base) : JF P w K mg base 3 hy.f_plain_rings hy.fd_plain_rings ["many", "colours"] (nm hy) F_plain_rings := jf_pure (g0_plain_rings hy tb)
def b_least_rings : CS := (sSeq (sAsg (cTup (cCons (cLst cNil) (cCons (cLst (cCons (cC (.int 0)) cNil)) cNil))) (gTp 2 (gsCons (gNm 2) (gsCons (gNm 3) gsNil)))) (sSeq (sWhile (cTst (cOp fNe (cVar 3) (cLst cNil))) (sSeq (sIf (ctAnd (cTst (cOp fEq (cOp fMod (cVar 0) (cFn fLen (cCons (cVar 3) cNil))) (cC (.int 0)))) (cTst (cOp fEq (cFn fLen (cCons (cVar 3) cNil)) (cVar 0)))) (sExpr (cMt fAppend (cVar 2) (cCons (cFn (f1 gTuple) (cCons (cVar 3) cNil)) cNil))) sNil) (sSeq (sAsg (cLc (ciR1 (cCons (cVar 0) cNil)) (gNm 4) ctYes (cOp fIx (cVar 3) (cOp fMod (cVar 4) (cFn fLen (cCons (cVar 3) cNil)))) [4]) (gNm 3)) (sSeq (sWhile (ctAnd (cTst (cOp fNe (cVar 3) (cLst cNil))) (cTst (cOp fEq (cOp fIx (cVar 3) (cNeg (cC (.int 1)))) (cOp fSub (cVar 1) (cC (.int 1)))))) (sExpr (cMt0 fPop (cVar 3)))) (sIf (cTst (cOp fNe (cVar 3) (cLst cNil))) (sAugS (cVar 3) (cNeg (cC (.int 1))) (fI2 iadd) (cC (.int 1))) sNil))))) (sRet (cFn (f1 gTuple) (cCons (cVar 2) cNil)))))
theorem g0_least_rings (hy : Hy K mg) (tb : Tbs hy base) : JF P w K mg base 1 hy.f_least_rings hy.fd_least_rings ["many", "colours"] (nm hy) (cDef 2 5 b_least_rings) :=
   jf_def (k := 0) hy.F_least_rings sc_least_rings fun cdv A outer s H E hr => (jb_cons (js_asg (je_tup (ja_cons (je_lst ja_nil) (ja_cons (je_lst (ja_cons je_int ja_nil)) ja_nil))) (jg_tup rfl (jgs_cons (jg_name (pg_name (i := 2) sc_least_rings.nd rfl (by first | exact .inl rfl | exact .inr rfl))) (jgs_cons (jg_name (pg_name (i := 3) sc_least_rings.nd rfl (by first | exact .inl rfl | exact .inr rfl))) jgs_nil)))) (jb_cons (js_while (passes_of rfl) (jt_cmp (opd_ne hr.units) (je_var 3 (pv 3)) (je_lst ja_nil) (by rfl)) (jb_cons (js_if (jt_of (jw_and (jt_cmp (opd_eq hr.units) (je_op opd_mod (je_var 0 (pv 0)) (je_blt blt_len (by rfl) hy.z_len (by rfl) (ja_cons (je_var 3 (pv 3)) ja_nil))) je_int (by rfl)) (jw_and1 (jt_cmp (opd_eq hr.units) (je_blt blt_len (by rfl) hy.z_len (by rfl) (ja_cons (je_var 3 (pv 3)) ja_nil)) (je_var 0 (pv 0)) (by rfl))))) (jb_one (js_expr (je_mt PySem.F.plainAttrs_list PySem.F.slot_list_append PySem.F.type_list_append mtd_append (je_var 2 (pv 2)) (ja_cons (je_ty ty_tuple (by rfl) hy.z_tuple (by rfl) (ja_cons (je_var 3 (pv 3)) ja_nil)) ja_nil)))) jb_nil) (jb_cons (by first | exact js_setLc (E' := E0) (own := [("k", 4)]) (i := 3) rfl sc_least_rings.nd rfl rfl (sw_true rfl rfl rfl (by decide +kernel)) (ji_range1 (by rfl) hy.z_range (ja_cons (je_var 0 (pv 0)) ja_nil)) (blkOk_by (N := ["many", "colours", "found", "row", "k"]) (sc := defScope s_least_rings) (own := [("k", 4)]) (by decide +kernel)) (fun _ _ _ _ _ => (jgw_name (pg_name (i := 4) sc_least_rings.nd rfl (by first | exact .inl rfl | exact .inr rfl)))) (fun _ _ _ _ _ => jts_nil) (fun _ _ _ _ _ => (je_ix (hu_of hr) (je_var 3 (pv 3)) (je_op opd_mod (je_var 4 (pv 4)) (je_blt blt_len (by rfl) hy.z_len (by rfl) (ja_cons (je_var 3 (pv 3)) ja_nil))) (fun _ _ => rfl))) | exact js_set (i := 3) sc_least_rings.nd rfl (by first | exact .inl rfl | exact .inr rfl) (je_lc (E' := E0) (own := [("k", 4)]) rfl sc_least_rings.nd (ji_range1 (by rfl) hy.z_range (ja_cons (je_var 0 (pv 0)) ja_nil)) (blkOk_by (N := ["many", "colours", "found", "row", "k"]) (sc := defScope s_least_rings) (own := [("k", 4)]) (by decide +kernel)) (fun _ _ _ _ _ => (jgw_name (pg_name (i := 4) sc_least_rings.nd rfl (by first | exact .inl rfl | exact .inr rfl)))) (fun _ _ _ _ _ => jts_nil) (fun _ _ _ _ _ => (je_ix (hu_of hr) (je_var 3 (pv 3)) (je_op opd_mod (je_var 4 (pv 4)) (je_blt blt_len (by rfl) hy.z_len (by rfl) (ja_cons (je_var 3 (pv 3)) ja_nil))) (fun _ _ => rfl))))) (jb_cons (js_while (passes_of rfl) (jt_of (jw_and (jt_cmp (opd_ne hr.units) (je_var 3 (pv 3)) (je_lst ja_nil) (by rfl)) (jw_and1 (jt_cmp (opd_eq hr.units) (je_ix (hu_of hr) (je_var 3 (pv 3)) (je_neg je_int) (fun _ _ => rfl)) (je_op opd_sub (je_var 1 (pv 1)) je_int) (by rfl))))) (jb_one (js_expr (je_mt0 PySem.F.plainAttrs_list PySem.F.slot_list_pop PySem.F.type_list_pop mtd_pop (je_var 3 (pv 3)))))) (jb_one (js_if (jt_cmp (opd_ne hr.units) (je_var 3 (pv 3)) (je_lst ja_nil) (by rfl)) (jb_one (js_augS (hu_of hr) (je_var 3 (pv 3)) (je_neg je_int) je_int opd_iadd)) jb_nil)))))) (jb_one (js_ret (je_ty ty_tuple (by rfl) hy.z_tuple (by rfl) (ja_cons (je_var 2 (pv 2)) ja_nil))))))
abbrev F_least_rings : CF := (cPure (cDef 2 5 b_least_rings))
theorem g_least_rings (hy : Hy K mg) (tb : Tbs hy base) : JF P w K mg base 1 hy.f_least_rings hy.fd_least_rings ["many", "colours"] (nm hy) F_least_rings := jf_pure (g0_least_rings hy tb)
def b__law_flat : CS := (sSeq (sAsg (cLst cNil) (gNm 1)) (sSeq (sFor (ciSeq (cVar 0)) (gNm 2) (sAsg (cOp fAdd (cVar 1) (cVar 2)) (gNm 1))) (sRet (cVar 1))))
theorem g0__law_flat (hy : Hy K mg) (tb : Tbs hy base) : JF P w K mg base 1 hy.f__law_flat hy.fd__law_flat ["rows"] (nm hy) (cDef 1 3 b__law_flat) :=
   jf_def (k := 0) hy.F__law_flat sc__law_flat fun cdv A outer s H E hr => (jb_cons (js_set (i := 1) sc__law_flat.nd rfl (by first | exact .inl rfl | exact .inr rfl) (je_lst ja_nil)) (jb_cons (js_for (passes_of rfl) rfl (ji_seq (je_var 0 (pv 0))) (jg_name (pg_name (i := 2) sc__law_flat.nd rfl (by first | exact .inl rfl | exact .inr rfl))) (jb_one (js_set (i := 1) sc__law_flat.nd rfl (by first | exact .inl rfl | exact .inr rfl) (je_op opd_add (je_var 1 (pv 1)) (je_var 2 (pv 2)))))) (jb_one (js_ret (je_var 1 (pv 1))))))
abbrev F__law_flat : CF := (cDef 1 3 b__law_flat)
theorem g__law_flat (hy : Hy K mg) (tb : Tbs hy base) : JF P w K mg base 1 hy.f__law_flat hy.fd__law_flat ["rows"] (nm hy) F__law_flat := g0__law_flat hy tb
theorem g0__law_dice (hy : Hy K mg) (tb : Tbs hy base) : JF P w K mg base 1 hy.f__law_dice hy.fd__law_dice ["cell"] (nm hy) (cDef 1 1 b_dice) :=
   jf_def (k := 0) hy.F__law_dice sc__law_dice fun cdv A outer s H E hr => (jb_cons (js_if (jt_chain opd_lt opd_lt (je_op opd_sub je_int je_int) (je_var 0 (pv 0)) je_int) (jb_one (js_ret (je_lst (ja_cons (je_blt blt_abs (by rfl) hy.z_abs (by rfl) (ja_cons (je_var 0 (pv 0)) ja_nil)) (ja_cons je_int (ja_cons je_int ja_nil)))))) jb_nil) (jb_one (js_ret (je_lst (ja_cons (je_var 0 (pv 0)) (ja_cons (je_op opd_add je_int (je_op opd_mod (je_ty ty_int (by rfl) hy.z_int (by rfl) (ja_cons (je_var 0 (pv 0)) ja_nil)) je_int)) (ja_cons (je_ty ty_int (by rfl) hy.z_int (by rfl) (ja_cons (je_cmp opd_ge (je_var 0 (pv 0)) (je_op opd_pow je_int je_int) (by rfl)) ja_nil)) ja_nil)))))))
abbrev F__law_dice : CF := fDice
theorem g__law_dice (hy : Hy K mg) (tb : Tbs hy base) : JF P w K mg base 1 hy.f__law_dice hy.fd__law_dice ["cell"] (nm hy) F__law_dice := jf_dice (g0__law_dice hy tb) dice_ok
theorem g0__law_roll (hy : Hy K mg) (tb : Tbs hy base) : JF P w K mg base 1 hy.f__law_roll hy.fd__law_roll ["dice", "many"] (nm hy) (cDef 2 3 b_roll) :=
   jf_def (k := 0) hy.F__law_roll sc__law_roll fun cdv A outer s H E hr => (jb_cons (js_if (jt_of (jw_or (jt_cmp (opd_eq hr.units) (je_ix (hu_of hr) (je_var 0 (pv 0)) je_int (fun _ _ => rfl)) je_int (by rfl)) (jw_or1 (jt_of (jw_and (jt_cmp (opd_eq hr.units) (je_ix (hu_of hr) (je_var 0 (pv 0)) je_int (fun _ _ => rfl)) je_int (by rfl)) (jw_and1 (jt_cmp opd_gt (je_ix (hu_of hr) (je_var 0 (pv 0)) je_int (fun _ _ => rfl)) je_int (by rfl)))))))) (jb_cons (js_set (i := 2) sc__law_roll.nd rfl (by first | exact .inl rfl | exact .inr rfl) (je_op opd_mod (je_ty ty_int (by rfl) hy.z_int (by rfl) (ja_cons (je_ix (hu_of hr) (je_var 0 (pv 0)) je_int (fun _ _ => rfl)) ja_nil)) (je_var 1 (pv 1)))) (jb_cons (js_asg (je_op opd_div (je_ix (hu_of hr) (je_var 0 (pv 0)) je_int (fun _ _ => rfl)) (je_var 1 (pv 1))) (jg_sub (hu_of hr) (je_var 0 (pv 0)) je_int)) (jb_one (js_ret (je_var 2 (pv 2)))))) jb_nil) (jb_cons (js_asg je_int (jg_sub (hu_of hr) (je_var 0 (pv 0)) je_int)) (jb_cons (js_asg (je_op opd_mod (je_ty ty_int (by rfl) hy.z_int (by rfl) (ja_cons (je_op opd_add (je_op opd_add (je_op opd_mul (je_ix (hu_of hr) (je_var 0 (pv 0)) je_int (fun _ _ => rfl)) je_int) (je_op opd_mul (je_ix (hu_of hr) (je_var 0 (pv 0)) je_int (fun _ _ => rfl)) je_int)) je_int) ja_nil)) je_int) (jg_sub (hu_of hr) (je_var 0 (pv 0)) je_int)) (jb_cons (js_asg (je_op opd_add (je_ix (hu_of hr) (je_var 0 (pv 0)) je_int (fun _ _ => rfl)) je_int) (jg_sub (hu_of hr) (je_var 0 (pv 0)) je_int)) (jb_one (js_ret (je_op opd_mod (je_ty ty_int (by rfl) hy.z_int (by rfl) (ja_cons (je_op opd_add (je_op opd_div (je_ix (hu_of hr) (je_var 0 (pv 0)) je_int (fun _ _ => rfl)) je_int) (je_ix (hu_of hr) (je_var 0 (pv 0)) je_int (fun _ _ => rfl))) ja_nil)) (je_var 1 (pv 1)))))))))
abbrev F__law_roll : CF := fRoll
theorem g__law_roll (hy : Hy K mg) (tb : Tbs hy base) : JF P w K mg base 1 hy.f__law_roll hy.fd__law_roll ["dice", "many"] (nm hy) F__law_roll := jf_roll (g0__law_roll hy tb) roll_ok
theorem g__law_rounds (hy : Hy K mg) (tb : Tbs hy base) : FnOk P w K mg base (L2.CX P w) 2 hy.f__law_rounds hy.fd__law_rounds ["script", "most"] (spRnd K (nm hy)) :=
  have g__law_dice := g__law_dice (P := P) (w := w) (base := base) hy tb
  hy.F__law_rounds.okX sc__law_rounds (fun vs H Q E h => by obtain ⟨_, _, _, rfl, _⟩ := h; rfl) fun cdv A outer s H vs Q E hr h =>
    ⟨_, rnd_body (N := nm hy) (E := E) (c := b_rnd) sc__law_rounds.nd rfl (.inl rfl) (pv 0) (pv 1) (jb_cons (js_if (jt_cmp (opd_eq hr.units) (je_var 2 (pv 2)) (je_lst ja_nil) (by rfl)) (jb_one (js_set (i := 2) sc__law_rounds.nd rfl (by first | exact .inl rfl | exact .inr rfl) (je_lst (ja_cons je_int ja_nil)))) jb_nil) (jb_one (js_ret (je_lc (E' := E0) (own := [("cell", 3)]) rfl sc__law_rounds.nd (ji_seq (je_var 2 (pv 2))) (blkOk_by (N := ["script", "most", "cells", "cell"]) (sc := defScope s__law_rounds) (own := [("cell", 3)]) (by decide +kernel)) (fun _ _ _ _ _ => (jgw_name (pg_name (i := 3) sc__law_rounds.nd rfl (by first | exact .inl rfl | exact .inr rfl)))) (fun _ _ _ _ _ => jts_nil) (fun _ _ _ _ _ => (je_call g__law_dice (hr.mono (by decide)) (by rfl) hy.m__law_dice hy.F__law_dice.kp hy.b__law_dice passL (ja_cons (je_var 3 (pv 3)) ja_nil))))))) rnd_ok, tRnd_of h (by decide)⟩
def ROWS6 : List D := [.tup [.int 0, .int 0, .int 0, .int 0, .int 0, .int 0], .tup [.int 0, .int 0, .int 0, .int 0, .int 0, .int 1], .tup [.int 0, .int 0, .int 0, .int 0, .int 0, .int 2], .tup [.int 0, .int 0, .int 0, .int 0, .int 1, .int 0], .tup [.int 0, .int 0, .int 0, .int 0, .int 1, .int 1], .tup [.int 0, .int 0, .int 0, .int 0, .int 1, .int 2], .tup [.int 0, .int 0, .int 0, .int 0, .int 2, .int 0], .tup [.int 0, .int 0, .int 0, .int 0, .int 2, .int 1], .tup [.int 0, .int 0, .int 0, .int 0, .int 2, .int 2], .tup [.int 0, .int 0, .int 0, .int 1, .int 0, .int 0], .tup [.int 0, .int 0, .int 0, .int 1, .int 0, .int 1], .tup [.int 0, .int 0, .int 0, .int 1, .int 0, .int 2], .tup [.int 0, .int 0, .int 0, .int 1, .int 1, .int 0], .tup [.int 0, .int 0, .int 0, .int 1, .int 1, .int 1], .tup [.int 0, .int 0, .int 0, .int 1, .int 1, .int 2], .tup [.int 0, .int 0, .int 0, .int 1, .int 2, .int 0], .tup [.int 0, .int 0, .int 0, .int 1, .int 2, .int 1], .tup [.int 0, .int 0, .int 0, .int 1, .int 2, .int 2], .tup [.int 0, .int 0, .int 0, .int 2, .int 0, .int 0], .tup [.int 0, .int 0, .int 0, .int 2, .int 0, .int 1], .tup [.int 0, .int 0, .int 0, .int 2, .int 0, .int 2], .tup [.int 0, .int 0, .int 0, .int 2, .int 1, .int 0], .tup [.int 0, .int 0, .int 0, .int 2, .int 1, .int 1], .tup [.int 0, .int 0, .int 0, .int 2, .int 1, .int 2], .tup [.int 0, .int 0, .int 0, .int 2, .int 2, .int 0], .tup [.int 0, .int 0, .int 0, .int 2, .int 2, .int 1], .tup [.int 0, .int 0, .int 0, .int 2, .int 2, .int 2], .tup [.int 0, .int 0, .int 1, .int 0, .int 0, .int 0], .tup [.int 0, .int 0, .int 1, .int 0, .int 0, .int 1], .tup [.int 0, .int 0, .int 1, .int 0, .int 0, .int 2], .tup [.int 0, .int 0, .int 1, .int 0, .int 1, .int 0], .tup [.int 0, .int 0, .int 1, .int 0, .int 1, .int 1], .tup [.int 0, .int 0, .int 1, .int 0, .int 1, .int 2], .tup [.int 0, .int 0, .int 1, .int 0, .int 2, .int 0], .tup [.int 0, .int 0, .int 1, .int 0, .int 2, .int 1], .tup [.int 0, .int 0, .int 1, .int 0, .int 2, .int 2], .tup [.int 0, .int 0, .int 1, .int 1, .int 0, .int 0], .tup [.int 0, .int 0, .int 1, .int 1, .int 0, .int 1], .tup [.int 0, .int 0, .int 1, .int 1, .int 0, .int 2], .tup [.int 0, .int 0, .int 1, .int 1, .int 1, .int 0], .tup [.int 0, .int 0, .int 1, .int 1, .int 1, .int 1], .tup [.int 0, .int 0, .int 1, .int 1, .int 1, .int 2], .tup [.int 0, .int 0, .int 1, .int 1, .int 2, .int 0], .tup [.int 0, .int 0, .int 1, .int 1, .int 2, .int 1], .tup [.int 0, .int 0, .int 1, .int 1, .int 2, .int 2], .tup [.int 0, .int 0, .int 1, .int 2, .int 0, .int 0], .tup [.int 0, .int 0, .int 1, .int 2, .int 0, .int 1], .tup [.int 0, .int 0, .int 1, .int 2, .int 0, .int 2], .tup [.int 0, .int 0, .int 1, .int 2, .int 1, .int 0], .tup [.int 0, .int 0, .int 1, .int 2, .int 1, .int 1], .tup [.int 0, .int 0, .int 1, .int 2, .int 1, .int 2], .tup [.int 0, .int 0, .int 1, .int 2, .int 2, .int 0], .tup [.int 0, .int 0, .int 1, .int 2, .int 2, .int 1], .tup [.int 0, .int 0, .int 1, .int 2, .int 2, .int 2], .tup [.int 0, .int 0, .int 2, .int 0, .int 0, .int 0], .tup [.int 0, .int 0, .int 2, .int 0, .int 0, .int 1], .tup [.int 0, .int 0, .int 2, .int 0, .int 0, .int 2], .tup [.int 0, .int 0, .int 2, .int 0, .int 1, .int 0], .tup [.int 0, .int 0, .int 2, .int 0, .int 1, .int 1], .tup [.int 0, .int 0, .int 2, .int 0, .int 1, .int 2], .tup [.int 0, .int 0, .int 2, .int 0, .int 2, .int 0], .tup [.int 0, .int 0, .int 2, .int 0, .int 2, .int 1], .tup [.int 0, .int 0, .int 2, .int 0, .int 2, .int 2], .tup [.int 0, .int 0, .int 2, .int 1, .int 0, .int 0], .tup [.int 0, .int 0, .int 2, .int 1, .int 0, .int 1], .tup [.int 0, .int 0, .int 2, .int 1, .int 0, .int 2], .tup [.int 0, .int 0, .int 2, .int 1, .int 1, .int 0], .tup [.int 0, .int 0, .int 2, .int 1, .int 1, .int 1], .tup [.int 0, .int 0, .int 2, .int 1, .int 1, .int 2], .tup [.int 0, .int 0, .int 2, .int 1, .int 2, .int 0], .tup [.int 0, .int 0, .int 2, .int 1, .int 2, .int 1], .tup [.int 0, .int 0, .int 2, .int 1, .int 2, .int 2], .tup [.int 0, .int 0, .int 2, .int 2, .int 0, .int 0], .tup [.int 0, .int 0, .int 2, .int 2, .int 0, .int 1], .tup [.int 0, .int 0, .int 2, .int 2, .int 0, .int 2], .tup [.int 0, .int 0, .int 2, .int 2, .int 1, .int 0], .tup [.int 0, .int 0, .int 2, .int 2, .int 1, .int 1], .tup [.int 0, .int 0, .int 2, .int 2, .int 1, .int 2], .tup [.int 0, .int 0, .int 2, .int 2, .int 2, .int 0], .tup [.int 0, .int 0, .int 2, .int 2, .int 2, .int 1], .tup [.int 0, .int 0, .int 2, .int 2, .int 2, .int 2], .tup [.int 0, .int 1, .int 0, .int 0, .int 0, .int 0], .tup [.int 0, .int 1, .int 0, .int 0, .int 0, .int 1], .tup [.int 0, .int 1, .int 0, .int 0, .int 0, .int 2], .tup [.int 0, .int 1, .int 0, .int 0, .int 1, .int 0], .tup [.int 0, .int 1, .int 0, .int 0, .int 1, .int 1], .tup [.int 0, .int 1, .int 0, .int 0, .int 1, .int 2], .tup [.int 0, .int 1, .int 0, .int 0, .int 2, .int 0], .tup [.int 0, .int 1, .int 0, .int 0, .int 2, .int 1], .tup [.int 0, .int 1, .int 0, .int 0, .int 2, .int 2], .tup [.int 0, .int 1, .int 0, .int 1, .int 0, .int 0], .tup [.int 0, .int 1, .int 0, .int 1, .int 0, .int 1], .tup [.int 0, .int 1, .int 0, .int 1, .int 0, .int 2], .tup [.int 0, .int 1, .int 0, .int 1, .int 1, .int 0], .tup [.int 0, .int 1, .int 0, .int 1, .int 1, .int 1], .tup [.int 0, .int 1, .int 0, .int 1, .int 1, .int 2], .tup [.int 0, .int 1, .int 0, .int 1, .int 2, .int 0], .tup [.int 0, .int 1, .int 0, .int 1, .int 2, .int 1], .tup [.int 0, .int 1, .int 0, .int 1, .int 2, .int 2], .tup [.int 0, .int 1, .int 0, .int 2, .int 0, .int 0], .tup [.int 0, .int 1, .int 0, .int 2, .int 0, .int 1], .tup [.int 0, .int 1, .int 0, .int 2, .int 0, .int 2], .tup [.int 0, .int 1, .int 0, .int 2, .int 1, .int 0], .tup [.int 0, .int 1, .int 0, .int 2, .int 1, .int 1], .tup [.int 0, .int 1, .int 0, .int 2, .int 1, .int 2], .tup [.int 0, .int 1, .int 0, .int 2, .int 2, .int 0], .tup [.int 0, .int 1, .int 0, .int 2, .int 2, .int 1], .tup [.int 0, .int 1, .int 0, .int 2, .int 2, .int 2], .tup [.int 0, .int 1, .int 1, .int 0, .int 0, .int 0], .tup [.int 0, .int 1, .int 1, .int 0, .int 0, .int 1], .tup [.int 0, .int 1, .int 1, .int 0, .int 0, .int 2], .tup [.int 0, .int 1, .int 1, .int 0, .int 1, .int 0], .tup [.int 0, .int 1, .int 1, .int 0, .int 1, .int 1], .tup [.int 0, .int 1, .int 1, .int 0, .int 1, .int 2], .tup [.int 0, .int 1, .int 1, .int 0, .int 2, .int 0], .tup [.int 0, .int 1, .int 1, .int 0, .int 2, .int 1], .tup [.int 0, .int 1, .int 1, .int 0, .int 2, .int 2], .tup [.int 0, .int 1, .int 1, .int 1, .int 0, .int 0], .tup [.int 0, .int 1, .int 1, .int 1, .int 0, .int 1], .tup [.int 0, .int 1, .int 1, .int 1, .int 0, .int 2], .tup [.int 0, .int 1, .int 1, .int 1, .int 1, .int 0], .tup [.int 0, .int 1, .int 1, .int 1, .int 1, .int 1], .tup [.int 0, .int 1, .int 1, .int 1, .int 1, .int 2], .tup [.int 0, .int 1, .int 1, .int 1, .int 2, .int 0], .tup [.int 0, .int 1, .int 1, .int 1, .int 2, .int 1], .tup [.int 0, .int 1, .int 1, .int 1, .int 2, .int 2], .tup [.int 0, .int 1, .int 1, .int 2, .int 0, .int 0], .tup [.int 0, .int 1, .int 1, .int 2, .int 0, .int 1], .tup [.int 0, .int 1, .int 1, .int 2, .int 0, .int 2], .tup [.int 0, .int 1, .int 1, .int 2, .int 1, .int 0], .tup [.int 0, .int 1, .int 1, .int 2, .int 1, .int 1], .tup [.int 0, .int 1, .int 1, .int 2, .int 1, .int 2], .tup [.int 0, .int 1, .int 1, .int 2, .int 2, .int 0], .tup [.int 0, .int 1, .int 1, .int 2, .int 2, .int 1], .tup [.int 0, .int 1, .int 1, .int 2, .int 2, .int 2], .tup [.int 0, .int 1, .int 2, .int 0, .int 0, .int 0], .tup [.int 0, .int 1, .int 2, .int 0, .int 0, .int 1], .tup [.int 0, .int 1, .int 2, .int 0, .int 0, .int 2], .tup [.int 0, .int 1, .int 2, .int 0, .int 1, .int 0], .tup [.int 0, .int 1, .int 2, .int 0, .int 1, .int 1], .tup [.int 0, .int 1, .int 2, .int 0, .int 1, .int 2], .tup [.int 0, .int 1, .int 2, .int 0, .int 2, .int 0], .tup [.int 0, .int 1, .int 2, .int 0, .int 2, .int 1], .tup [.int 0, .int 1, .int 2, .int 0, .int 2, .int 2], .tup [.int 0, .int 1, .int 2, .int 1, .int 0, .int 0], .tup [.int 0, .int 1, .int 2, .int 1, .int 0, .int 1], .tup [.int 0, .int 1, .int 2, .int 1, .int 0, .int 2], .tup [.int 0, .int 1, .int 2, .int 1, .int 1, .int 0], .tup [.int 0, .int 1, .int 2, .int 1, .int 1, .int 1], .tup [.int 0, .int 1, .int 2, .int 1, .int 1, .int 2], .tup [.int 0, .int 1, .int 2, .int 1, .int 2, .int 0], .tup [.int 0, .int 1, .int 2, .int 1, .int 2, .int 1], .tup [.int 0, .int 1, .int 2, .int 1, .int 2, .int 2], .tup [.int 0, .int 1, .int 2, .int 2, .int 0, .int 0], .tup [.int 0, .int 1, .int 2, .int 2, .int 0, .int 1], .tup [.int 0, .int 1, .int 2, .int 2, .int 0, .int 2], .tup [.int 0, .int 1, .int 2, .int 2, .int 1, .int 0], .tup [.int 0, .int 1, .int 2, .int 2, .int 1, .int 1], .tup [.int 0, .int 1, .int 2, .int 2, .int 1, .int 2], .tup [.int 0, .int 1, .int 2, .int 2, .int 2, .int 0], .tup [.int 0, .int 1, .int 2, .int 2, .int 2, .int 1], .tup [.int 0, .int 1, .int 2, .int 2, .int 2, .int 2], .tup [.int 0, .int 2, .int 0, .int 0, .int 0, .int 0], .tup [.int 0, .int 2, .int 0, .int 0, .int 0, .int 1], .tup [.int 0, .int 2, .int 0, .int 0, .int 0, .int 2], .tup [.int 0, .int 2, .int 0, .int 0, .int 1, .int 0], .tup [.int 0, .int 2, .int 0, .int 0, .int 1, .int 1], .tup [.int 0, .int 2, .int 0, .int 0, .int 1, .int 2], .tup [.int 0, .int 2, .int 0, .int 0, .int 2, .int 0], .tup [.int 0, .int 2, .int 0, .int 0, .int 2, .int 1], .tup [.int 0, .int 2, .int 0, .int 0, .int 2, .int 2], .tup [.int 0, .int 2, .int 0, .int 1, .int 0, .int 0], .tup [.int 0, .int 2, .int 0, .int 1, .int 0, .int 1], .tup [.int 0, .int 2, .int 0, .int 1, .int 0, .int 2], .tup [.int 0, .int 2, .int 0, .int 1, .int 1, .int 0], .tup [.int 0, .int 2, .int 0, .int 1, .int 1, .int 1], .tup [.int 0, .int 2, .int 0, .int 1, .int 1, .int 2], .tup [.int 0, .int 2, .int 0, .int 1, .int 2, .int 0], .tup [.int 0, .int 2, .int 0, .int 1, .int 2, .int 1], .tup [.int 0, .int 2, .int 0, .int 1, .int 2, .int 2], .tup [.int 0, .int 2, .int 0, .int 2, .int 0, .int 0], .tup [.int 0, .int 2, .int 0, .int 2, .int 0, .int 1], .tup [.int 0, .int 2, .int 0, .int 2, .int 0, .int 2], .tup [.int 0, .int 2, .int 0, .int 2, .int 1, .int 0], .tup [.int 0, .int 2, .int 0, .int 2, .int 1, .int 1], .tup [.int 0, .int 2, .int 0, .int 2, .int 1, .int 2], .tup [.int 0, .int 2, .int 0, .int 2, .int 2, .int 0], .tup [.int 0, .int 2, .int 0, .int 2, .int 2, .int 1], .tup [.int 0, .int 2, .int 0, .int 2, .int 2, .int 2], .tup [.int 0, .int 2, .int 1, .int 0, .int 0, .int 0], .tup [.int 0, .int 2, .int 1, .int 0, .int 0, .int 1], .tup [.int 0, .int 2, .int 1, .int 0, .int 0, .int 2], .tup [.int 0, .int 2, .int 1, .int 0, .int 1, .int 0], .tup [.int 0, .int 2, .int 1, .int 0, .int 1, .int 1], .tup [.int 0, .int 2, .int 1, .int 0, .int 1, .int 2], .tup [.int 0, .int 2, .int 1, .int 0, .int 2, .int 0], .tup [.int 0, .int 2, .int 1, .int 0, .int 2, .int 1], .tup [.int 0, .int 2, .int 1, .int 0, .int 2, .int 2], .tup [.int 0, .int 2, .int 1, .int 1, .int 0, .int 0], .tup [.int 0, .int 2, .int 1, .int 1, .int 0, .int 1], .tup [.int 0, .int 2, .int 1, .int 1, .int 0, .int 2], .tup [.int 0, .int 2, .int 1, .int 1, .int 1, .int 0], .tup [.int 0, .int 2, .int 1, .int 1, .int 1, .int 1], .tup [.int 0, .int 2, .int 1, .int 1, .int 1, .int 2], .tup [.int 0, .int 2, .int 1, .int 1, .int 2, .int 0], .tup [.int 0, .int 2, .int 1, .int 1, .int 2, .int 1], .tup [.int 0, .int 2, .int 1, .int 1, .int 2, .int 2], .tup [.int 0, .int 2, .int 1, .int 2, .int 0, .int 0], .tup [.int 0, .int 2, .int 1, .int 2, .int 0, .int 1], .tup [.int 0, .int 2, .int 1, .int 2, .int 0, .int 2], .tup [.int 0, .int 2, .int 1, .int 2, .int 1, .int 0], .tup [.int 0, .int 2, .int 1, .int 2, .int 1, .int 1], .tup [.int 0, .int 2, .int 1, .int 2, .int 1, .int 2], .tup [.int 0, .int 2, .int 1, .int 2, .int 2, .int 0], .tup [.int 0, .int 2, .int 1, .int 2, .int 2, .int 1], .tup [.int 0, .int 2, .int 1, .int 2, .int 2, .int 2], .tup [.int 0, .int 2, .int 2, .int 0, .int 0, .int 0], .tup [.int 0, .int 2, .int 2, .int 0, .int 0, .int 1], .tup [.int 0, .int 2, .int 2, .int 0, .int 0, .int 2], .tup [.int 0, .int 2, .int 2, .int 0, .int 1, .int 0], .tup [.int 0, .int 2, .int 2, .int 0, .int 1, .int 1], .tup [.int 0, .int 2, .int 2, .int 0, .int 1, .int 2], .tup [.int 0, .int 2, .int 2, .int 0, .int 2, .int 0], .tup [.int 0, .int 2, .int 2, .int 0, .int 2, .int 1], .tup [.int 0, .int 2, .int 2, .int 0, .int 2, .int 2], .tup [.int 0, .int 2, .int 2, .int 1, .int 0, .int 0], .tup [.int 0, .int 2, .int 2, .int 1, .int 0, .int 1], .tup [.int 0, .int 2, .int 2, .int 1, .int 0, .int 2], .tup [.int 0, .int 2, .int 2, .int 1, .int 1, .int 0], .tup [.int 0, .int 2, .int 2, .int 1, .int 1, .int 1], .tup [.int 0, .int 2, .int 2, .int 1, .int 1, .int 2], .tup [.int 0, .int 2, .int 2, .int 1, .int 2, .int 0], .tup [.int 0, .int 2, .int 2, .int 1, .int 2, .int 1], .tup [.int 0, .int 2, .int 2, .int 1, .int 2, .int 2], .tup [.int 0, .int 2, .int 2, .int 2, .int 0, .int 0], .tup [.int 0, .int 2, .int 2, .int 2, .int 0, .int 1], .tup [.int 0, .int 2, .int 2, .int 2, .int 0, .int 2], .tup [.int 0, .int 2, .int 2, .int 2, .int 1, .int 0], .tup [.int 0, .int 2, .int 2, .int 2, .int 1, .int 1], .tup [.int 0, .int 2, .int 2, .int 2, .int 1, .int 2], .tup [.int 0, .int 2, .int 2, .int 2, .int 2, .int 0], .tup [.int 0, .int 2, .int 2, .int 2, .int 2, .int 1], .tup [.int 0, .int 2, .int 2, .int 2, .int 2, .int 2], .tup [.int 1, .int 0, .int 0, .int 0, .int 0, .int 0], .tup [.int 1, .int 0, .int 0, .int 0, .int 0, .int 1], .tup [.int 1, .int 0, .int 0, .int 0, .int 0, .int 2], .tup [.int 1, .int 0, .int 0, .int 0, .int 1, .int 0], .tup [.int 1, .int 0, .int 0, .int 0, .int 1, .int 1], .tup [.int 1, .int 0, .int 0, .int 0, .int 1, .int 2], .tup [.int 1, .int 0, .int 0, .int 0, .int 2, .int 0], .tup [.int 1, .int 0, .int 0, .int 0, .int 2, .int 1], .tup [.int 1, .int 0, .int 0, .int 0, .int 2, .int 2], .tup [.int 1, .int 0, .int 0, .int 1, .int 0, .int 0], .tup [.int 1, .int 0, .int 0, .int 1, .int 0, .int 1], .tup [.int 1, .int 0, .int 0, .int 1, .int 0, .int 2], .tup [.int 1, .int 0, .int 0, .int 1, .int 1, .int 0], .tup [.int 1, .int 0, .int 0, .int 1, .int 1, .int 1], .tup [.int 1, .int 0, .int 0, .int 1, .int 1, .int 2], .tup [.int 1, .int 0, .int 0, .int 1, .int 2, .int 0], .tup [.int 1, .int 0, .int 0, .int 1, .int 2, .int 1], .tup [.int 1, .int 0, .int 0, .int 1, .int 2, .int 2], .tup [.int 1, .int 0, .int 0, .int 2, .int 0, .int 0], .tup [.int 1, .int 0, .int 0, .int 2, .int 0, .int 1], .tup [.int 1, .int 0, .int 0, .int 2, .int 0, .int 2], .tup [.int 1, .int 0, .int 0, .int 2, .int 1, .int 0], .tup [.int 1, .int 0, .int 0, .int 2, .int 1, .int 1], .tup [.int 1, .int 0, .int 0, .int 2, .int 1, .int 2], .tup [.int 1, .int 0, .int 0, .int 2, .int 2, .int 0], .tup [.int 1, .int 0, .int 0, .int 2, .int 2, .int 1], .tup [.int 1, .int 0, .int 0, .int 2, .int 2, .int 2], .tup [.int 1, .int 0, .int 1, .int 0, .int 0, .int 0], .tup [.int 1, .int 0, .int 1, .int 0, .int 0, .int 1], .tup [.int 1, .int 0, .int 1, .int 0, .int 0, .int 2], .tup [.int 1, .int 0, .int 1, .int 0, .int 1, .int 0], .tup [.int 1, .int 0, .int 1, .int 0, .int 1, .int 1], .tup [.int 1, .int 0, .int 1, .int 0, .int 1, .int 2], .tup [.int 1, .int 0, .int 1, .int 0, .int 2, .int 0], .tup [.int 1, .int 0, .int 1, .int 0, .int 2, .int 1], .tup [.int 1, .int 0, .int 1, .int 0, .int 2, .int 2], .tup [.int 1, .int 0, .int 1, .int 1, .int 0, .int 0], .tup [.int 1, .int 0, .int 1, .int 1, .int 0, .int 1], .tup [.int 1, .int 0, .int 1, .int 1, .int 0, .int 2], .tup [.int 1, .int 0, .int 1, .int 1, .int 1, .int 0], .tup [.int 1, .int 0, .int 1, .int 1, .int 1, .int 1], .tup [.int 1, .int 0, .int 1, .int 1, .int 1, .int 2], .tup [.int 1, .int 0, .int 1, .int 1, .int 2, .int 0], .tup [.int 1, .int 0, .int 1, .int 1, .int 2, .int 1], .tup [.int 1, .int 0, .int 1, .int 1, .int 2, .int 2], .tup [.int 1, .int 0, .int 1, .int 2, .int 0, .int 0], .tup [.int 1, .int 0, .int 1, .int 2, .int 0, .int 1], .tup [.int 1, .int 0, .int 1, .int 2, .int 0, .int 2], .tup [.int 1, .int 0, .int 1, .int 2, .int 1, .int 0], .tup [.int 1, .int 0, .int 1, .int 2, .int 1, .int 1], .tup [.int 1, .int 0, .int 1, .int 2, .int 1, .int 2], .tup [.int 1, .int 0, .int 1, .int 2, .int 2, .int 0], .tup [.int 1, .int 0, .int 1, .int 2, .int 2, .int 1], .tup [.int 1, .int 0, .int 1, .int 2, .int 2, .int 2], .tup [.int 1, .int 0, .int 2, .int 0, .int 0, .int 0], .tup [.int 1, .int 0, .int 2, .int 0, .int 0, .int 1], .tup [.int 1, .int 0, .int 2, .int 0, .int 0, .int 2], .tup [.int 1, .int 0, .int 2, .int 0, .int 1, .int 0], .tup [.int 1, .int 0, .int 2, .int 0, .int 1, .int 1], .tup [.int 1, .int 0, .int 2, .int 0, .int 1, .int 2], .tup [.int 1, .int 0, .int 2, .int 0, .int 2, .int 0], .tup [.int 1, .int 0, .int 2, .int 0, .int 2, .int 1], .tup [.int 1, .int 0, .int 2, .int 0, .int 2, .int 2], .tup [.int 1, .int 0, .int 2, .int 1, .int 0, .int 0], .tup [.int 1, .int 0, .int 2, .int 1, .int 0, .int 1], .tup [.int 1, .int 0, .int 2, .int 1, .int 0, .int 2], .tup [.int 1, .int 0, .int 2, .int 1, .int 1, .int 0], .tup [.int 1, .int 0, .int 2, .int 1, .int 1, .int 1], .tup [.int 1, .int 0, .int 2, .int 1, .int 1, .int 2], .tup [.int 1, .int 0, .int 2, .int 1, .int 2, .int 0], .tup [.int 1, .int 0, .int 2, .int 1, .int 2, .int 1], .tup [.int 1, .int 0, .int 2, .int 1, .int 2, .int 2], .tup [.int 1, .int 0, .int 2, .int 2, .int 0, .int 0], .tup [.int 1, .int 0, .int 2, .int 2, .int 0, .int 1], .tup [.int 1, .int 0, .int 2, .int 2, .int 0, .int 2], .tup [.int 1, .int 0, .int 2, .int 2, .int 1, .int 0], .tup [.int 1, .int 0, .int 2, .int 2, .int 1, .int 1], .tup [.int 1, .int 0, .int 2, .int 2, .int 1, .int 2], .tup [.int 1, .int 0, .int 2, .int 2, .int 2, .int 0], .tup [.int 1, .int 0, .int 2, .int 2, .int 2, .int 1], .tup [.int 1, .int 0, .int 2, .int 2, .int 2, .int 2], .tup [.int 1, .int 1, .int 0, .int 0, .int 0, .int 0], .tup [.int 1, .int 1, .int 0, .int 0, .int 0, .int 1], .tup [.int 1, .int 1, .int 0, .int 0, .int 0, .int 2], .tup [.int 1, .int 1, .int 0, .int 0, .int 1, .int 0], .tup [.int 1, .int 1, .int 0, .int 0, .int 1, .int 1], .tup [.int 1, .int 1, .int 0, .int 0, .int 1, .int 2], .tup [.int 1, .int 1, .int 0, .int 0, .int 2, .int 0], .tup [.int 1, .int 1, .int 0, .int 0, .int 2, .int 1], .tup [.int 1, .int 1, .int 0, .int 0, .int 2, .int 2], .tup [.int 1, .int 1, .int 0, .int 1, .int 0, .int 0], .tup [.int 1, .int 1, .int 0, .int 1, .int 0, .int 1], .tup [.int 1, .int 1, .int 0, .int 1, .int 0, .int 2], .tup [.int 1, .int 1, .int 0, .int 1, .int 1, .int 0], .tup [.int 1, .int 1, .int 0, .int 1, .int 1, .int 1], .tup [.int 1, .int 1, .int 0, .int 1, .int 1, .int 2], .tup [.int 1, .int 1, .int 0, .int 1, .int 2, .int 0], .tup [.int 1, .int 1, .int 0, .int 1, .int 2, .int 1], .tup [.int 1, .int 1, .int 0, .int 1, .int 2, .int 2], .tup [.int 1, .int 1, .int 0, .int 2, .int 0, .int 0], .tup [.int 1, .int 1, .int 0, .int 2, .int 0, .int 1], .tup [.int 1, .int 1, .int 0, .int 2, .int 0, .int 2], .tup [.int 1, .int 1, .int 0, .int 2, .int 1, .int 0], .tup [.int 1, .int 1, .int 0, .int 2, .int 1, .int 1], .tup [.int 1, .int 1, .int 0, .int 2, .int 1, .int 2], .tup [.int 1, .int 1, .int 0, .int 2, .int 2, .int 0], .tup [.int 1, .int 1, .int 0, .int 2, .int 2, .int 1], .tup [.int 1, .int 1, .int 0, .int 2, .int 2, .int 2], .tup [.int 1, .int 1, .int 1, .int 0, .int 0, .int 0], .tup [.int 1, .int 1, .int 1, .int 0, .int 0, .int 1], .tup [.int 1, .int 1, .int 1, .int 0, .int 0, .int 2], .tup [.int 1, .int 1, .int 1, .int 0, .int 1, .int 0], .tup [.int 1, .int 1, .int 1, .int 0, .int 1, .int 1], .tup [.int 1, .int 1, .int 1, .int 0, .int 1, .int 2], .tup [.int 1, .int 1, .int 1, .int 0, .int 2, .int 0], .tup [.int 1, .int 1, .int 1, .int 0, .int 2, .int 1], .tup [.int 1, .int 1, .int 1, .int 0, .int 2, .int 2], .tup [.int 1, .int 1, .int 1, .int 1, .int 0, .int 0], .tup [.int 1, .int 1, .int 1, .int 1, .int 0, .int 1], .tup [.int 1, .int 1, .int 1, .int 1, .int 0, .int 2], .tup [.int 1, .int 1, .int 1, .int 1, .int 1, .int 0], .tup [.int 1, .int 1, .int 1, .int 1, .int 1, .int 1], .tup [.int 1, .int 1, .int 1, .int 1, .int 1, .int 2], .tup [.int 1, .int 1, .int 1, .int 1, .int 2, .int 0], .tup [.int 1, .int 1, .int 1, .int 1, .int 2, .int 1], .tup [.int 1, .int 1, .int 1, .int 1, .int 2, .int 2], .tup [.int 1, .int 1, .int 1, .int 2, .int 0, .int 0], .tup [.int 1, .int 1, .int 1, .int 2, .int 0, .int 1], .tup [.int 1, .int 1, .int 1, .int 2, .int 0, .int 2], .tup [.int 1, .int 1, .int 1, .int 2, .int 1, .int 0], .tup [.int 1, .int 1, .int 1, .int 2, .int 1, .int 1], .tup [.int 1, .int 1, .int 1, .int 2, .int 1, .int 2], .tup [.int 1, .int 1, .int 1, .int 2, .int 2, .int 0], .tup [.int 1, .int 1, .int 1, .int 2, .int 2, .int 1], .tup [.int 1, .int 1, .int 1, .int 2, .int 2, .int 2], .tup [.int 1, .int 1, .int 2, .int 0, .int 0, .int 0], .tup [.int 1, .int 1, .int 2, .int 0, .int 0, .int 1], .tup [.int 1, .int 1, .int 2, .int 0, .int 0, .int 2], .tup [.int 1, .int 1, .int 2, .int 0, .int 1, .int 0], .tup [.int 1, .int 1, .int 2, .int 0, .int 1, .int 1], .tup [.int 1, .int 1, .int 2, .int 0, .int 1, .int 2], .tup [.int 1, .int 1, .int 2, .int 0, .int 2, .int 0], .tup [.int 1, .int 1, .int 2, .int 0, .int 2, .int 1], .tup [.int 1, .int 1, .int 2, .int 0, .int 2, .int 2], .tup [.int 1, .int 1, .int 2, .int 1, .int 0, .int 0], .tup [.int 1, .int 1, .int 2, .int 1, .int 0, .int 1], .tup [.int 1, .int 1, .int 2, .int 1, .int 0, .int 2], .tup [.int 1, .int 1, .int 2, .int 1, .int 1, .int 0], .tup [.int 1, .int 1, .int 2, .int 1, .int 1, .int 1], .tup [.int 1, .int 1, .int 2, .int 1, .int 1, .int 2], .tup [.int 1, .int 1, .int 2, .int 1, .int 2, .int 0], .tup [.int 1, .int 1, .int 2, .int 1, .int 2, .int 1], .tup [.int 1, .int 1, .int 2, .int 1, .int 2, .int 2], .tup [.int 1, .int 1, .int 2, .int 2, .int 0, .int 0], .tup [.int 1, .int 1, .int 2, .int 2, .int 0, .int 1], .tup [.int 1, .int 1, .int 2, .int 2, .int 0, .int 2], .tup [.int 1, .int 1, .int 2, .int 2, .int 1, .int 0], .tup [.int 1, .int 1, .int 2, .int 2, .int 1, .int 1], .tup [.int 1, .int 1, .int 2, .int 2, .int 1, .int 2], .tup [.int 1, .int 1, .int 2, .int 2, .int 2, .int 0], .tup [.int 1, .int 1, .int 2, .int 2, .int 2, .int 1], .tup [.int 1, .int 1, .int 2, .int 2, .int 2, .int 2], .tup [.int 1, .int 2, .int 0, .int 0, .int 0, .int 0], .tup [.int 1, .int 2, .int 0, .int 0, .int 0, .int 1], .tup [.int 1, .int 2, .int 0, .int 0, .int 0, .int 2], .tup [.int 1, .int 2, .int 0, .int 0, .int 1, .int 0], .tup [.int 1, .int 2, .int 0, .int 0, .int 1, .int 1], .tup [.int 1, .int 2, .int 0, .int 0, .int 1, .int 2], .tup [.int 1, .int 2, .int 0, .int 0, .int 2, .int 0], .tup [.int 1, .int 2, .int 0, .int 0, .int 2, .int 1], .tup [.int 1, .int 2, .int 0, .int 0, .int 2, .int 2], .tup [.int 1, .int 2, .int 0, .int 1, .int 0, .int 0], .tup [.int 1, .int 2, .int 0, .int 1, .int 0, .int 1], .tup [.int 1, .int 2, .int 0, .int 1, .int 0, .int 2], .tup [.int 1, .int 2, .int 0, .int 1, .int 1, .int 0], .tup [.int 1, .int 2, .int 0, .int 1, .int 1, .int 1], .tup [.int 1, .int 2, .int 0, .int 1, .int 1, .int 2], .tup [.int 1, .int 2, .int 0, .int 1, .int 2, .int 0], .tup [.int 1, .int 2, .int 0, .int 1, .int 2, .int 1], .tup [.int 1, .int 2, .int 0, .int 1, .int 2, .int 2], .tup [.int 1, .int 2, .int 0, .int 2, .int 0, .int 0], .tup [.int 1, .int 2, .int 0, .int 2, .int 0, .int 1], .tup [.int 1, .int 2, .int 0, .int 2, .int 0, .int 2], .tup [.int 1, .int 2, .int 0, .int 2, .int 1, .int 0], .tup [.int 1, .int 2, .int 0, .int 2, .int 1, .int 1], .tup [.int 1, .int 2, .int 0, .int 2, .int 1, .int 2], .tup [.int 1, .int 2, .int 0, .int 2, .int 2, .int 0], .tup [.int 1, .int 2, .int 0, .int 2, .int 2, .int 1], .tup [.int 1, .int 2, .int 0, .int 2, .int 2, .int 2], .tup [.int 1, .int 2, .int 1, .int 0, .int 0, .int 0], .tup [.int 1, .int 2, .int 1, .int 0, .int 0, .int 1], .tup [.int 1, .int 2, .int 1, .int 0, .int 0, .int 2], .tup [.int 1, .int 2, .int 1, .int 0, .int 1, .int 0], .tup [.int 1, .int 2, .int 1, .int 0, .int 1, .int 1], .tup [.int 1, .int 2, .int 1, .int 0, .int 1, .int 2], .tup [.int 1, .int 2, .int 1, .int 0, .int 2, .int 0], .tup [.int 1, .int 2, .int 1, .int 0, .int 2, .int 1], .tup [.int 1, .int 2, .int 1, .int 0, .int 2, .int 2], .tup [.int 1, .int 2, .int 1, .int 1, .int 0, .int 0], .tup [.int 1, .int 2, .int 1, .int 1, .int 0, .int 1], .tup [.int 1, .int 2, .int 1, .int 1, .int 0, .int 2], .tup [.int 1, .int 2, .int 1, .int 1, .int 1, .int 0], .tup [.int 1, .int 2, .int 1, .int 1, .int 1, .int 1], .tup [.int 1, .int 2, .int 1, .int 1, .int 1, .int 2], .tup [.int 1, .int 2, .int 1, .int 1, .int 2, .int 0], .tup [.int 1, .int 2, .int 1, .int 1, .int 2, .int 1], .tup [.int 1, .int 2, .int 1, .int 1, .int 2, .int 2], .tup [.int 1, .int 2, .int 1, .int 2, .int 0, .int 0], .tup [.int 1, .int 2, .int 1, .int 2, .int 0, .int 1], .tup [.int 1, .int 2, .int 1, .int 2, .int 0, .int 2], .tup [.int 1, .int 2, .int 1, .int 2, .int 1, .int 0], .tup [.int 1, .int 2, .int 1, .int 2, .int 1, .int 1], .tup [.int 1, .int 2, .int 1, .int 2, .int 1, .int 2], .tup [.int 1, .int 2, .int 1, .int 2, .int 2, .int 0], .tup [.int 1, .int 2, .int 1, .int 2, .int 2, .int 1], .tup [.int 1, .int 2, .int 1, .int 2, .int 2, .int 2], .tup [.int 1, .int 2, .int 2, .int 0, .int 0, .int 0], .tup [.int 1, .int 2, .int 2, .int 0, .int 0, .int 1], .tup [.int 1, .int 2, .int 2, .int 0, .int 0, .int 2], .tup [.int 1, .int 2, .int 2, .int 0, .int 1, .int 0], .tup [.int 1, .int 2, .int 2, .int 0, .int 1, .int 1], .tup [.int 1, .int 2, .int 2, .int 0, .int 1, .int 2], .tup [.int 1, .int 2, .int 2, .int 0, .int 2, .int 0], .tup [.int 1, .int 2, .int 2, .int 0, .int 2, .int 1], .tup [.int 1, .int 2, .int 2, .int 0, .int 2, .int 2], .tup [.int 1, .int 2, .int 2, .int 1, .int 0, .int 0], .tup [.int 1, .int 2, .int 2, .int 1, .int 0, .int 1], .tup [.int 1, .int 2, .int 2, .int 1, .int 0, .int 2], .tup [.int 1, .int 2, .int 2, .int 1, .int 1, .int 0], .tup [.int 1, .int 2, .int 2, .int 1, .int 1, .int 1], .tup [.int 1, .int 2, .int 2, .int 1, .int 1, .int 2], .tup [.int 1, .int 2, .int 2, .int 1, .int 2, .int 0], .tup [.int 1, .int 2, .int 2, .int 1, .int 2, .int 1], .tup [.int 1, .int 2, .int 2, .int 1, .int 2, .int 2], .tup [.int 1, .int 2, .int 2, .int 2, .int 0, .int 0], .tup [.int 1, .int 2, .int 2, .int 2, .int 0, .int 1], .tup [.int 1, .int 2, .int 2, .int 2, .int 0, .int 2], .tup [.int 1, .int 2, .int 2, .int 2, .int 1, .int 0], .tup [.int 1, .int 2, .int 2, .int 2, .int 1, .int 1], .tup [.int 1, .int 2, .int 2, .int 2, .int 1, .int 2], .tup [.int 1, .int 2, .int 2, .int 2, .int 2, .int 0], .tup [.int 1, .int 2, .int 2, .int 2, .int 2, .int 1], .tup [.int 1, .int 2, .int 2, .int 2, .int 2, .int 2], .tup [.int 2, .int 0, .int 0, .int 0, .int 0, .int 0], .tup [.int 2, .int 0, .int 0, .int 0, .int 0, .int 1], .tup [.int 2, .int 0, .int 0, .int 0, .int 0, .int 2], .tup [.int 2, .int 0, .int 0, .int 0, .int 1, .int 0], .tup [.int 2, .int 0, .int 0, .int 0, .int 1, .int 1], .tup [.int 2, .int 0, .int 0, .int 0, .int 1, .int 2], .tup [.int 2, .int 0, .int 0, .int 0, .int 2, .int 0], .tup [.int 2, .int 0, .int 0, .int 0, .int 2, .int 1], .tup [.int 2, .int 0, .int 0, .int 0, .int 2, .int 2], .tup [.int 2, .int 0, .int 0, .int 1, .int 0, .int 0], .tup [.int 2, .int 0, .int 0, .int 1, .int 0, .int 1], .tup [.int 2, .int 0, .int 0, .int 1, .int 0, .int 2], .tup [.int 2, .int 0, .int 0, .int 1, .int 1, .int 0], .tup [.int 2, .int 0, .int 0, .int 1, .int 1, .int 1], .tup [.int 2, .int 0, .int 0, .int 1, .int 1, .int 2], .tup [.int 2, .int 0, .int 0, .int 1, .int 2, .int 0], .tup [.int 2, .int 0, .int 0, .int 1, .int 2, .int 1], .tup [.int 2, .int 0, .int 0, .int 1, .int 2, .int 2], .tup [.int 2, .int 0, .int 0, .int 2, .int 0, .int 0], .tup [.int 2, .int 0, .int 0, .int 2, .int 0, .int 1], .tup [.int 2, .int 0, .int 0, .int 2, .int 0, .int 2], .tup [.int 2, .int 0, .int 0, .int 2, .int 1, .int 0], .tup [.int 2, .int 0, .int 0, .int 2, .int 1, .int 1], .tup [.int 2, .int 0, .int 0, .int 2, .int 1, .int 2], .tup [.int 2, .int 0, .int 0, .int 2, .int 2, .int 0], .tup [.int 2, .int 0, .int 0, .int 2, .int 2, .int 1], .tup [.int 2, .int 0, .int 0, .int 2, .int 2, .int 2], .tup [.int 2, .int 0, .int 1, .int 0, .int 0, .int 0], .tup [.int 2, .int 0, .int 1, .int 0, .int 0, .int 1], .tup [.int 2, .int 0, .int 1, .int 0, .int 0, .int 2], .tup [.int 2, .int 0, .int 1, .int 0, .int 1, .int 0], .tup [.int 2, .int 0, .int 1, .int 0, .int 1, .int 1], .tup [.int 2, .int 0, .int 1, .int 0, .int 1, .int 2], .tup [.int 2, .int 0, .int 1, .int 0, .int 2, .int 0], .tup [.int 2, .int 0, .int 1, .int 0, .int 2, .int 1], .tup [.int 2, .int 0, .int 1, .int 0, .int 2, .int 2], .tup [.int 2, .int 0, .int 1, .int 1, .int 0, .int 0], .tup [.int 2, .int 0, .int 1, .int 1, .int 0, .int 1], .tup [.int 2, .int 0, .int 1, .int 1, .int 0, .int 2], .tup [.int 2, .int 0, .int 1, .int 1, .int 1, .int 0], .tup [.int 2, .int 0, .int 1, .int 1, .int 1, .int 1], .tup [.int 2, .int 0, .int 1, .int 1, .int 1, .int 2], .tup [.int 2, .int 0, .int 1, .int 1, .int 2, .int 0], .tup [.int 2, .int 0, .int 1, .int 1, .int 2, .int 1], .tup [.int 2, .int 0, .int 1, .int 1, .int 2, .int 2], .tup [.int 2, .int 0, .int 1, .int 2, .int 0, .int 0], .tup [.int 2, .int 0, .int 1, .int 2, .int 0, .int 1], .tup [.int 2, .int 0, .int 1, .int 2, .int 0, .int 2], .tup [.int 2, .int 0, .int 1, .int 2, .int 1, .int 0], .tup [.int 2, .int 0, .int 1, .int 2, .int 1, .int 1], .tup [.int 2, .int 0, .int 1, .int 2, .int 1, .int 2], .tup [.int 2, .int 0, .int 1, .int 2, .int 2, .int 0], .tup [.int 2, .int 0, .int 1, .int 2, .int 2, .int 1], .tup [.int 2, .int 0, .int 1, .int 2, .int 2, .int 2], .tup [.int 2, .int 0, .int 2, .int 0, .int 0, .int 0], .tup [.int 2, .int 0, .int 2, .int 0, .int 0, .int 1], .tup [.int 2, .int 0, .int 2, .int 0, .int 0, .int 2], .tup [.int 2, .int 0, .int 2, .int 0, .int 1, .int 0], .tup [.int 2, .int 0, .int 2, .int 0, .int 1, .int 1], .tup [.int 2, .int 0, .int 2, .int 0, .int 1, .int 2], .tup [.int 2, .int 0, .int 2, .int 0, .int 2, .int 0], .tup [.int 2, .int 0, .int 2, .int 0, .int 2, .int 1], .tup [.int 2, .int 0, .int 2, .int 0, .int 2, .int 2], .tup [.int 2, .int 0, .int 2, .int 1, .int 0, .int 0], .tup [.int 2, .int 0, .int 2, .int 1, .int 0, .int 1], .tup [.int 2, .int 0, .int 2, .int 1, .int 0, .int 2], .tup [.int 2, .int 0, .int 2, .int 1, .int 1, .int 0], .tup [.int 2, .int 0, .int 2, .int 1, .int 1, .int 1], .tup [.int 2, .int 0, .int 2, .int 1, .int 1, .int 2], .tup [.int 2, .int 0, .int 2, .int 1, .int 2, .int 0], .tup [.int 2, .int 0, .int 2, .int 1, .int 2, .int 1], .tup [.int 2, .int 0, .int 2, .int 1, .int 2, .int 2], .tup [.int 2, .int 0, .int 2, .int 2, .int 0, .int 0], .tup [.int 2, .int 0, .int 2, .int 2, .int 0, .int 1], .tup [.int 2, .int 0, .int 2, .int 2, .int 0, .int 2], .tup [.int 2, .int 0, .int 2, .int 2, .int 1, .int 0], .tup [.int 2, .int 0, .int 2, .int 2, .int 1, .int 1], .tup [.int 2, .int 0, .int 2, .int 2, .int 1, .int 2], .tup [.int 2, .int 0, .int 2, .int 2, .int 2, .int 0], .tup [.int 2, .int 0, .int 2, .int 2, .int 2, .int 1], .tup [.int 2, .int 0, .int 2, .int 2, .int 2, .int 2], .tup [.int 2, .int 1, .int 0, .int 0, .int 0, .int 0], .tup [.int 2, .int 1, .int 0, .int 0, .int 0, .int 1], .tup [.int 2, .int 1, .int 0, .int 0, .int 0, .int 2], .tup [.int 2, .int 1, .int 0, .int 0, .int 1, .int 0], .tup [.int 2, .int 1, .int 0, .int 0, .int 1, .int 1], .tup [.int 2, .int 1, .int 0, .int 0, .int 1, .int 2], .tup [.int 2, .int 1, .int 0, .int 0, .int 2, .int 0], .tup [.int 2, .int 1, .int 0, .int 0, .int 2, .int 1], .tup [.int 2, .int 1, .int 0, .int 0, .int 2, .int 2], .tup [.int 2, .int 1, .int 0, .int 1, .int 0, .int 0], .tup [.int 2, .int 1, .int 0, .int 1, .int 0, .int 1], .tup [.int 2, .int 1, .int 0, .int 1, .int 0, .int 2], .tup [.int 2, .int 1, .int 0, .int 1, .int 1, .int 0], .tup [.int 2, .int 1, .int 0, .int 1, .int 1, .int 1], .tup [.int 2, .int 1, .int 0, .int 1, .int 1, .int 2], .tup [.int 2, .int 1, .int 0, .int 1, .int 2, .int 0], .tup [.int 2, .int 1, .int 0, .int 1, .int 2, .int 1], .tup [.int 2, .int 1, .int 0, .int 1, .int 2, .int 2], .tup [.int 2, .int 1, .int 0, .int 2, .int 0, .int 0], .tup [.int 2, .int 1, .int 0, .int 2, .int 0, .int 1], .tup [.int 2, .int 1, .int 0, .int 2, .int 0, .int 2], .tup [.int 2, .int 1, .int 0, .int 2, .int 1, .int 0], .tup [.int 2, .int 1, .int 0, .int 2, .int 1, .int 1], .tup [.int 2, .int 1, .int 0, .int 2, .int 1, .int 2], .tup [.int 2, .int 1, .int 0, .int 2, .int 2, .int 0], .tup [.int 2, .int 1, .int 0, .int 2, .int 2, .int 1], .tup [.int 2, .int 1, .int 0, .int 2, .int 2, .int 2], .tup [.int 2, .int 1, .int 1, .int 0, .int 0, .int 0], .tup [.int 2, .int 1, .int 1, .int 0, .int 0, .int 1], .tup [.int 2, .int 1, .int 1, .int 0, .int 0, .int 2], .tup [.int 2, .int 1, .int 1, .int 0, .int 1, .int 0], .tup [.int 2, .int 1, .int 1, .int 0, .int 1, .int 1], .tup [.int 2, .int 1, .int 1, .int 0, .int 1, .int 2], .tup [.int 2, .int 1, .int 1, .int 0, .int 2, .int 0], .tup [.int 2, .int 1, .int 1, .int 0, .int 2, .int 1], .tup [.int 2, .int 1, .int 1, .int 0, .int 2, .int 2], .tup [.int 2, .int 1, .int 1, .int 1, .int 0, .int 0], .tup [.int 2, .int 1, .int 1, .int 1, .int 0, .int 1], .tup [.int 2, .int 1, .int 1, .int 1, .int 0, .int 2], .tup [.int 2, .int 1, .int 1, .int 1, .int 1, .int 0], .tup [.int 2, .int 1, .int 1, .int 1, .int 1, .int 1], .tup [.int 2, .int 1, .int 1, .int 1, .int 1, .int 2], .tup [.int 2, .int 1, .int 1, .int 1, .int 2, .int 0], .tup [.int 2, .int 1, .int 1, .int 1, .int 2, .int 1], .tup [.int 2, .int 1, .int 1, .int 1, .int 2, .int 2], .tup [.int 2, .int 1, .int 1, .int 2, .int 0, .int 0], .tup [.int 2, .int 1, .int 1, .int 2, .int 0, .int 1], .tup [.int 2, .int 1, .int 1, .int 2, .int 0, .int 2], .tup [.int 2, .int 1, .int 1, .int 2, .int 1, .int 0], .tup [.int 2, .int 1, .int 1, .int 2, .int 1, .int 1], .tup [.int 2, .int 1, .int 1, .int 2, .int 1, .int 2], .tup [.int 2, .int 1, .int 1, .int 2, .int 2, .int 0], .tup [.int 2, .int 1, .int 1, .int 2, .int 2, .int 1], .tup [.int 2, .int 1, .int 1, .int 2, .int 2, .int 2], .tup [.int 2, .int 1, .int 2, .int 0, .int 0, .int 0], .tup [.int 2, .int 1, .int 2, .int 0, .int 0, .int 1], .tup [.int 2, .int 1, .int 2, .int 0, .int 0, .int 2], .tup [.int 2, .int 1, .int 2, .int 0, .int 1, .int 0], .tup [.int 2, .int 1, .int 2, .int 0, .int 1, .int 1], .tup [.int 2, .int 1, .int 2, .int 0, .int 1, .int 2], .tup [.int 2, .int 1, .int 2, .int 0, .int 2, .int 0], .tup [.int 2, .int 1, .int 2, .int 0, .int 2, .int 1], .tup [.int 2, .int 1, .int 2, .int 0, .int 2, .int 2], .tup [.int 2, .int 1, .int 2, .int 1, .int 0, .int 0], .tup [.int 2, .int 1, .int 2, .int 1, .int 0, .int 1], .tup [.int 2, .int 1, .int 2, .int 1, .int 0, .int 2], .tup [.int 2, .int 1, .int 2, .int 1, .int 1, .int 0], .tup [.int 2, .int 1, .int 2, .int 1, .int 1, .int 1], .tup [.int 2, .int 1, .int 2, .int 1, .int 1, .int 2], .tup [.int 2, .int 1, .int 2, .int 1, .int 2, .int 0], .tup [.int 2, .int 1, .int 2, .int 1, .int 2, .int 1], .tup [.int 2, .int 1, .int 2, .int 1, .int 2, .int 2], .tup [.int 2, .int 1, .int 2, .int 2, .int 0, .int 0], .tup [.int 2, .int 1, .int 2, .int 2, .int 0, .int 1], .tup [.int 2, .int 1, .int 2, .int 2, .int 0, .int 2], .tup [.int 2, .int 1, .int 2, .int 2, .int 1, .int 0], .tup [.int 2, .int 1, .int 2, .int 2, .int 1, .int 1], .tup [.int 2, .int 1, .int 2, .int 2, .int 1, .int 2], .tup [.int 2, .int 1, .int 2, .int 2, .int 2, .int 0], .tup [.int 2, .int 1, .int 2, .int 2, .int 2, .int 1], .tup [.int 2, .int 1, .int 2, .int 2, .int 2, .int 2], .tup [.int 2, .int 2, .int 0, .int 0, .int 0, .int 0], .tup [.int 2, .int 2, .int 0, .int 0, .int 0, .int 1], .tup [.int 2, .int 2, .int 0, .int 0, .int 0, .int 2], .tup [.int 2, .int 2, .int 0, .int 0, .int 1, .int 0], .tup [.int 2, .int 2, .int 0, .int 0, .int 1, .int 1], .tup [.int 2, .int 2, .int 0, .int 0, .int 1, .int 2], .tup [.int 2, .int 2, .int 0, .int 0, .int 2, .int 0], .tup [.int 2, .int 2, .int 0, .int 0, .int 2, .int 1], .tup [.int 2, .int 2, .int 0, .int 0, .int 2, .int 2], .tup [.int 2, .int 2, .int 0, .int 1, .int 0, .int 0], .tup [.int 2, .int 2, .int 0, .int 1, .int 0, .int 1], .tup [.int 2, .int 2, .int 0, .int 1, .int 0, .int 2], .tup [.int 2, .int 2, .int 0, .int 1, .int 1, .int 0], .tup [.int 2, .int 2, .int 0, .int 1, .int 1, .int 1], .tup [.int 2, .int 2, .int 0, .int 1, .int 1, .int 2], .tup [.int 2, .int 2, .int 0, .int 1, .int 2, .int 0], .tup [.int 2, .int 2, .int 0, .int 1, .int 2, .int 1], .tup [.int 2, .int 2, .int 0, .int 1, .int 2, .int 2], .tup [.int 2, .int 2, .int 0, .int 2, .int 0, .int 0], .tup [.int 2, .int 2, .int 0, .int 2, .int 0, .int 1], .tup [.int 2, .int 2, .int 0, .int 2, .int 0, .int 2], .tup [.int 2, .int 2, .int 0, .int 2, .int 1, .int 0], .tup [.int 2, .int 2, .int 0, .int 2, .int 1, .int 1], .tup [.int 2, .int 2, .int 0, .int 2, .int 1, .int 2], .tup [.int 2, .int 2, .int 0, .int 2, .int 2, .int 0], .tup [.int 2, .int 2, .int 0, .int 2, .int 2, .int 1], .tup [.int 2, .int 2, .int 0, .int 2, .int 2, .int 2], .tup [.int 2, .int 2, .int 1, .int 0, .int 0, .int 0], .tup [.int 2, .int 2, .int 1, .int 0, .int 0, .int 1], .tup [.int 2, .int 2, .int 1, .int 0, .int 0, .int 2], .tup [.int 2, .int 2, .int 1, .int 0, .int 1, .int 0], .tup [.int 2, .int 2, .int 1, .int 0, .int 1, .int 1], .tup [.int 2, .int 2, .int 1, .int 0, .int 1, .int 2], .tup [.int 2, .int 2, .int 1, .int 0, .int 2, .int 0], .tup [.int 2, .int 2, .int 1, .int 0, .int 2, .int 1], .tup [.int 2, .int 2, .int 1, .int 0, .int 2, .int 2], .tup [.int 2, .int 2, .int 1, .int 1, .int 0, .int 0], .tup [.int 2, .int 2, .int 1, .int 1, .int 0, .int 1], .tup [.int 2, .int 2, .int 1, .int 1, .int 0, .int 2], .tup [.int 2, .int 2, .int 1, .int 1, .int 1, .int 0], .tup [.int 2, .int 2, .int 1, .int 1, .int 1, .int 1], .tup [.int 2, .int 2, .int 1, .int 1, .int 1, .int 2], .tup [.int 2, .int 2, .int 1, .int 1, .int 2, .int 0], .tup [.int 2, .int 2, .int 1, .int 1, .int 2, .int 1], .tup [.int 2, .int 2, .int 1, .int 1, .int 2, .int 2], .tup [.int 2, .int 2, .int 1, .int 2, .int 0, .int 0], .tup [.int 2, .int 2, .int 1, .int 2, .int 0, .int 1], .tup [.int 2, .int 2, .int 1, .int 2, .int 0, .int 2], .tup [.int 2, .int 2, .int 1, .int 2, .int 1, .int 0], .tup [.int 2, .int 2, .int 1, .int 2, .int 1, .int 1], .tup [.int 2, .int 2, .int 1, .int 2, .int 1, .int 2], .tup [.int 2, .int 2, .int 1, .int 2, .int 2, .int 0], .tup [.int 2, .int 2, .int 1, .int 2, .int 2, .int 1], .tup [.int 2, .int 2, .int 1, .int 2, .int 2, .int 2], .tup [.int 2, .int 2, .int 2, .int 0, .int 0, .int 0], .tup [.int 2, .int 2, .int 2, .int 0, .int 0, .int 1], .tup [.int 2, .int 2, .int 2, .int 0, .int 0, .int 2], .tup [.int 2, .int 2, .int 2, .int 0, .int 1, .int 0], .tup [.int 2, .int 2, .int 2, .int 0, .int 1, .int 1], .tup [.int 2, .int 2, .int 2, .int 0, .int 1, .int 2], .tup [.int 2, .int 2, .int 2, .int 0, .int 2, .int 0], .tup [.int 2, .int 2, .int 2, .int 0, .int 2, .int 1], .tup [.int 2, .int 2, .int 2, .int 0, .int 2, .int 2], .tup [.int 2, .int 2, .int 2, .int 1, .int 0, .int 0], .tup [.int 2, .int 2, .int 2, .int 1, .int 0, .int 1], .tup [.int 2, .int 2, .int 2, .int 1, .int 0, .int 2], .tup [.int 2, .int 2, .int 2, .int 1, .int 1, .int 0], .tup [.int 2, .int 2, .int 2, .int 1, .int 1, .int 1], .tup [.int 2, .int 2, .int 2, .int 1, .int 1, .int 2], .tup [.int 2, .int 2, .int 2, .int 1, .int 2, .int 0], .tup [.int 2, .int 2, .int 2, .int 1, .int 2, .int 1], .tup [.int 2, .int 2, .int 2, .int 1, .int 2, .int 2], .tup [.int 2, .int 2, .int 2, .int 2, .int 0, .int 0], .tup [.int 2, .int 2, .int 2, .int 2, .int 0, .int 1], .tup [.int 2, .int 2, .int 2, .int 2, .int 0, .int 2], .tup [.int 2, .int 2, .int 2, .int 2, .int 1, .int 0], .tup [.int 2, .int 2, .int 2, .int 2, .int 1, .int 1], .tup [.int 2, .int 2, .int 2, .int 2, .int 1, .int 2], .tup [.int 2, .int 2, .int 2, .int 2, .int 2, .int 0], .tup [.int 2, .int 2, .int 2, .int 2, .int 2, .int 1], .tup [.int 2, .int 2, .int 2, .int 2, .int 2, .int 2]]
def K_14 : CK := fun σ η => (sIf (cTst (cOp fNe (cCall F_power (cCons (cVar 3) (cCons (cVar 2) cNil))) (cFn fLen (cCons (cVar 4) cNil)))) (sRet (cC (.bl false))) sNil) σ η (kT 17)
def K_13 : CK := fun σ η => (sIf (cTst (cOp fNe (cFn (f1 gSum) (cCons (cLc (ciR2 (cCons (cC (.int 1)) (cCons (cOp fAdd (cVar 11) (cC (.int 1))) cNil))) (gNm 5) (cTst (cOp fEq (cOp fMod (cVar 11) (cVar 5)) (cC (.int 0)))) (cCall F_weight (cCons (cVar 5) cNil)) [5]) cNil)) (cFn (f1 gInt) (cCons (cOp fEq (cVar 11) (cC (.int 1))) cNil)))) (sRet (cC (.bl false))) sNil) σ η { kT 17 with nx := K_14 }
def K_12 : CK := fun σ η => (sIf (cTst (cOp fNe (cCall F_weight (cCons (cVar 11) cNil)) (cVar 12))) (sRet (cC (.bl false))) sNil) σ η { kT 17 with nx := K_13 }
def K_11 : CK := fun σ η => (sFor (ciR2 (cCons (cC (.int 2)) (cCons (cOp fAdd (cVar 11) (cC (.int 1))) cNil))) (gNm 14) (sIf (cTst (cOp fEq (cOp fMod (cVar 13) (cVar 14)) (cC (.int 0)))) (sSeq (sAsg (cOp fDiv (cVar 13) (cVar 14)) (gNm 13)) (sSeq (sAsg (cIf (cTst (cOp fEq (cOp fMod (cVar 13) (cVar 14)) (cC (.int 0)))) (cC (.int 0)) (cOp fSub (cC (.int 0)) (cVar 12))) (gNm 12)) (sWhile (cTst (cOp fEq (cOp fMod (cVar 13) (cVar 14)) (cC (.int 0)))) (sAsg (cOp fDiv (cVar 13) (cVar 14)) (gNm 13))))) sNil)) σ η { kT 17 with nx := K_12 }
def K_10 : CK := fun σ η => (sAsg (cVar 11) (gNm 13)) σ η { kT 17 with nx := K_11 }
def K_9 : CK := fun σ η => (sAsg (cTup (cCons (cOp fAdd (cC (.int 1)) (cCall F__law_roll (cCons (cVar 1) (cCons (cC (.int 60)) cNil)))) (cCons (cC (.int 1)) cNil))) (gTp 2 (gsCons (gNm 11) (gsCons (gNm 12) gsNil)))) σ η { kT 17 with nx := K_10 }
def S_9_0 : SD × Hd := ([none, some (.ref 0), some (.int 1), some (.int 1), some (.ref 5), none, none, none, none, none, none, none, none, none, none, none, none], ⟨6, [(5, .lst [.tup [.int 0]]), (0, .dice)]⟩)
theorem hS_9_0 : (Nat.ble 1 S_9_0.2.nx && K_9 S_9_0.1 S_9_0.2) = true := by decide +kernel
def S_9_1 : SD × Hd := ([none, some (.ref 0), some (.int 1), some (.int 2), some (.ref 5), none, none, none, none, none, none, none, none, none, none, none, none], ⟨6, [(5, .lst [.tup [.int 0], .tup [.int 1]]), (0, .dice)]⟩)
theorem hS_9_1 : (Nat.ble 1 S_9_1.2.nx && K_9 S_9_1.1 S_9_1.2) = true := by decide +kernel
def S_9_2 : SD × Hd := ([none, some (.ref 0), some (.int 1), some (.int 3), some (.ref 5), none, none, none, none, none, none, none, none, none, none, none, none], ⟨6, [(5, .lst [.tup [.int 0], .tup [.int 1], .tup [.int 2]]), (0, .dice)]⟩)
theorem hS_9_2 : (Nat.ble 1 S_9_2.2.nx && K_9 S_9_2.1 S_9_2.2) = true := by decide +kernel
def S_9_3 : SD × Hd := ([none, some (.ref 0), some (.int 2), some (.int 1), some (.ref 9), none, none, none, none, none, none, none, none, none, none, none, none], ⟨10, [(9, .lst [.tup [.int 0, .int 0]]), (0, .dice)]⟩)
theorem hS_9_3 : (Nat.ble 1 S_9_3.2.nx && K_9 S_9_3.1 S_9_3.2) = true := by decide +kernel
def S_9_4 : SD × Hd := ([none, some (.ref 0), some (.int 2), some (.int 2), some (.ref 11), none, none, none, none, none, none, none, none, none, none, none, none], ⟨12, [(11, .lst [.tup [.int 0, .int 0], .tup [.int 0, .int 1], .tup [.int 1, .int 0], .tup [.int 1, .int 1]]), (0, .dice)]⟩)
theorem hS_9_4 : (Nat.ble 1 S_9_4.2.nx && K_9 S_9_4.1 S_9_4.2) = true := by decide +kernel
def S_9_5 : SD × Hd := ([none, some (.ref 0), some (.int 2), some (.int 3), some (.ref 13), none, none, none, none, none, none, none, none, none, none, none, none], ⟨14, [(13, .lst [.tup [.int 0, .int 0], .tup [.int 0, .int 1], .tup [.int 0, .int 2], .tup [.int 1, .int 0], .tup [.int 1, .int 1], .tup [.int 1, .int 2], .tup [.int 2, .int 0], .tup [.int 2, .int 1], .tup [.int 2, .int 2]]), (0, .dice)]⟩)
theorem hS_9_5 : (Nat.ble 1 S_9_5.2.nx && K_9 S_9_5.1 S_9_5.2) = true := by decide +kernel
def S_9_6 : SD × Hd := ([none, some (.ref 0), some (.int 3), some (.int 1), some (.ref 13), none, none, none, none, none, none, none, none, none, none, none, none], ⟨14, [(13, .lst [.tup [.int 0, .int 0, .int 0]]), (0, .dice)]⟩)
theorem hS_9_6 : (Nat.ble 1 S_9_6.2.nx && K_9 S_9_6.1 S_9_6.2) = true := by decide +kernel
def S_9_7 : SD × Hd := ([none, some (.ref 0), some (.int 3), some (.int 2), some (.ref 21), none, none, none, none, none, none, none, none, none, none, none, none], ⟨22, [(21, .lst [.tup [.int 0, .int 0, .int 0], .tup [.int 0, .int 0, .int 1], .tup [.int 0, .int 1, .int 0], .tup [.int 0, .int 1, .int 1], .tup [.int 1, .int 0, .int 0], .tup [.int 1, .int 0, .int 1], .tup [.int 1, .int 1, .int 0], .tup [.int 1, .int 1, .int 1]]), (0, .dice)]⟩)
theorem hS_9_7 : (Nat.ble 1 S_9_7.2.nx && K_9 S_9_7.1 S_9_7.2) = true := by decide +kernel
def S_9_8 : SD × Hd := ([none, some (.ref 0), some (.int 3), some (.int 3), some (.ref 33), none, none, none, none, none, none, none, none, none, none, none, none], ⟨34, [(33, .lst [.tup [.int 0, .int 0, .int 0], .tup [.int 0, .int 0, .int 1], .tup [.int 0, .int 0, .int 2], .tup [.int 0, .int 1, .int 0], .tup [.int 0, .int 1, .int 1], .tup [.int 0, .int 1, .int 2], .tup [.int 0, .int 2, .int 0], .tup [.int 0, .int 2, .int 1], .tup [.int 0, .int 2, .int 2], .tup [.int 1, .int 0, .int 0], .tup [.int 1, .int 0, .int 1], .tup [.int 1, .int 0, .int 2], .tup [.int 1, .int 1, .int 0], .tup [.int 1, .int 1, .int 1], .tup [.int 1, .int 1, .int 2], .tup [.int 1, .int 2, .int 0], .tup [.int 1, .int 2, .int 1], .tup [.int 1, .int 2, .int 2], .tup [.int 2, .int 0, .int 0], .tup [.int 2, .int 0, .int 1], .tup [.int 2, .int 0, .int 2], .tup [.int 2, .int 1, .int 0], .tup [.int 2, .int 1, .int 1], .tup [.int 2, .int 1, .int 2], .tup [.int 2, .int 2, .int 0], .tup [.int 2, .int 2, .int 1], .tup [.int 2, .int 2, .int 2]]), (0, .dice)]⟩)
theorem hS_9_8 : (Nat.ble 1 S_9_8.2.nx && K_9 S_9_8.1 S_9_8.2) = true := by decide +kernel
def S_9_9 : SD × Hd := ([none, some (.ref 0), some (.int 4), some (.int 1), some (.ref 17), none, none, none, none, none, none, none, none, none, none, none, none], ⟨18, [(17, .lst [.tup [.int 0, .int 0, .int 0, .int 0]]), (0, .dice)]⟩)
theorem hS_9_9 : (Nat.ble 1 S_9_9.2.nx && K_9 S_9_9.1 S_9_9.2) = true := by decide +kernel
def S_9_10 : SD × Hd := ([none, some (.ref 0), some (.int 4), some (.int 2), some (.ref 39), none, none, none, none, none, none, none, none, none, none, none, none], ⟨40, [(39, .lst [.tup [.int 0, .int 0, .int 0, .int 0], .tup [.int 0, .int 0, .int 0, .int 1], .tup [.int 0, .int 0, .int 1, .int 0], .tup [.int 0, .int 0, .int 1, .int 1], .tup [.int 0, .int 1, .int 0, .int 0], .tup [.int 0, .int 1, .int 0, .int 1], .tup [.int 0, .int 1, .int 1, .int 0], .tup [.int 0, .int 1, .int 1, .int 1], .tup [.int 1, .int 0, .int 0, .int 0], .tup [.int 1, .int 0, .int 0, .int 1], .tup [.int 1, .int 0, .int 1, .int 0], .tup [.int 1, .int 0, .int 1, .int 1], .tup [.int 1, .int 1, .int 0, .int 0], .tup [.int 1, .int 1, .int 0, .int 1], .tup [.int 1, .int 1, .int 1, .int 0], .tup [.int 1, .int 1, .int 1, .int 1]]), (0, .dice)]⟩)
theorem hS_9_10 : (Nat.ble 1 S_9_10.2.nx && K_9 S_9_10.1 S_9_10.2) = true := by decide +kernel
def S_9_11 : SD × Hd := ([none, some (.ref 0), some (.int 4), some (.int 3), some (.ref 89), none, none, none, none, none, none, none, none, none, none, none, none], ⟨90, [(89, .lst [.tup [.int 0, .int 0, .int 0, .int 0], .tup [.int 0, .int 0, .int 0, .int 1], .tup [.int 0, .int 0, .int 0, .int 2], .tup [.int 0, .int 0, .int 1, .int 0], .tup [.int 0, .int 0, .int 1, .int 1], .tup [.int 0, .int 0, .int 1, .int 2], .tup [.int 0, .int 0, .int 2, .int 0], .tup [.int 0, .int 0, .int 2, .int 1], .tup [.int 0, .int 0, .int 2, .int 2], .tup [.int 0, .int 1, .int 0, .int 0], .tup [.int 0, .int 1, .int 0, .int 1], .tup [.int 0, .int 1, .int 0, .int 2], .tup [.int 0, .int 1, .int 1, .int 0], .tup [.int 0, .int 1, .int 1, .int 1], .tup [.int 0, .int 1, .int 1, .int 2], .tup [.int 0, .int 1, .int 2, .int 0], .tup [.int 0, .int 1, .int 2, .int 1], .tup [.int 0, .int 1, .int 2, .int 2], .tup [.int 0, .int 2, .int 0, .int 0], .tup [.int 0, .int 2, .int 0, .int 1], .tup [.int 0, .int 2, .int 0, .int 2], .tup [.int 0, .int 2, .int 1, .int 0], .tup [.int 0, .int 2, .int 1, .int 1], .tup [.int 0, .int 2, .int 1, .int 2], .tup [.int 0, .int 2, .int 2, .int 0], .tup [.int 0, .int 2, .int 2, .int 1], .tup [.int 0, .int 2, .int 2, .int 2], .tup [.int 1, .int 0, .int 0, .int 0], .tup [.int 1, .int 0, .int 0, .int 1], .tup [.int 1, .int 0, .int 0, .int 2], .tup [.int 1, .int 0, .int 1, .int 0], .tup [.int 1, .int 0, .int 1, .int 1], .tup [.int 1, .int 0, .int 1, .int 2], .tup [.int 1, .int 0, .int 2, .int 0], .tup [.int 1, .int 0, .int 2, .int 1], .tup [.int 1, .int 0, .int 2, .int 2], .tup [.int 1, .int 1, .int 0, .int 0], .tup [.int 1, .int 1, .int 0, .int 1], .tup [.int 1, .int 1, .int 0, .int 2], .tup [.int 1, .int 1, .int 1, .int 0], .tup [.int 1, .int 1, .int 1, .int 1], .tup [.int 1, .int 1, .int 1, .int 2], .tup [.int 1, .int 1, .int 2, .int 0], .tup [.int 1, .int 1, .int 2, .int 1], .tup [.int 1, .int 1, .int 2, .int 2], .tup [.int 1, .int 2, .int 0, .int 0], .tup [.int 1, .int 2, .int 0, .int 1], .tup [.int 1, .int 2, .int 0, .int 2], .tup [.int 1, .int 2, .int 1, .int 0], .tup [.int 1, .int 2, .int 1, .int 1], .tup [.int 1, .int 2, .int 1, .int 2], .tup [.int 1, .int 2, .int 2, .int 0], .tup [.int 1, .int 2, .int 2, .int 1], .tup [.int 1, .int 2, .int 2, .int 2], .tup [.int 2, .int 0, .int 0, .int 0], .tup [.int 2, .int 0, .int 0, .int 1], .tup [.int 2, .int 0, .int 0, .int 2], .tup [.int 2, .int 0, .int 1, .int 0], .tup [.int 2, .int 0, .int 1, .int 1], .tup [.int 2, .int 0, .int 1, .int 2], .tup [.int 2, .int 0, .int 2, .int 0], .tup [.int 2, .int 0, .int 2, .int 1], .tup [.int 2, .int 0, .int 2, .int 2], .tup [.int 2, .int 1, .int 0, .int 0], .tup [.int 2, .int 1, .int 0, .int 1], .tup [.int 2, .int 1, .int 0, .int 2], .tup [.int 2, .int 1, .int 1, .int 0], .tup [.int 2, .int 1, .int 1, .int 1], .tup [.int 2, .int 1, .int 1, .int 2], .tup [.int 2, .int 1, .int 2, .int 0], .tup [.int 2, .int 1, .int 2, .int 1], .tup [.int 2, .int 1, .int 2, .int 2], .tup [.int 2, .int 2, .int 0, .int 0], .tup [.int 2, .int 2, .int 0, .int 1], .tup [.int 2, .int 2, .int 0, .int 2], .tup [.int 2, .int 2, .int 1, .int 0], .tup [.int 2, .int 2, .int 1, .int 1], .tup [.int 2, .int 2, .int 1, .int 2], .tup [.int 2, .int 2, .int 2, .int 0], .tup [.int 2, .int 2, .int 2, .int 1], .tup [.int 2, .int 2, .int 2, .int 2]]), (0, .dice)]⟩)
theorem hS_9_11 : (Nat.ble 1 S_9_11.2.nx && K_9 S_9_11.1 S_9_11.2) = true := by decide +kernel
def S_9_12 : SD × Hd := ([none, some (.ref 0), some (.int 5), some (.int 1), some (.ref 21), none, none, none, none, none, none, none, none, none, none, none, none], ⟨22, [(21, .lst [.tup [.int 0, .int 0, .int 0, .int 0, .int 0]]), (0, .dice)]⟩)
theorem hS_9_12 : (Nat.ble 1 S_9_12.2.nx && K_9 S_9_12.1 S_9_12.2) = true := by decide +kernel
def S_9_13 : SD × Hd := ([none, some (.ref 0), some (.int 5), some (.int 2), some (.ref 73), none, none, none, none, none, none, none, none, none, none, none, none], ⟨74, [(73, .lst [.tup [.int 0, .int 0, .int 0, .int 0, .int 0], .tup [.int 0, .int 0, .int 0, .int 0, .int 1], .tup [.int 0, .int 0, .int 0, .int 1, .int 0], .tup [.int 0, .int 0, .int 0, .int 1, .int 1], .tup [.int 0, .int 0, .int 1, .int 0, .int 0], .tup [.int 0, .int 0, .int 1, .int 0, .int 1], .tup [.int 0, .int 0, .int 1, .int 1, .int 0], .tup [.int 0, .int 0, .int 1, .int 1, .int 1], .tup [.int 0, .int 1, .int 0, .int 0, .int 0], .tup [.int 0, .int 1, .int 0, .int 0, .int 1], .tup [.int 0, .int 1, .int 0, .int 1, .int 0], .tup [.int 0, .int 1, .int 0, .int 1, .int 1], .tup [.int 0, .int 1, .int 1, .int 0, .int 0], .tup [.int 0, .int 1, .int 1, .int 0, .int 1], .tup [.int 0, .int 1, .int 1, .int 1, .int 0], .tup [.int 0, .int 1, .int 1, .int 1, .int 1], .tup [.int 1, .int 0, .int 0, .int 0, .int 0], .tup [.int 1, .int 0, .int 0, .int 0, .int 1], .tup [.int 1, .int 0, .int 0, .int 1, .int 0], .tup [.int 1, .int 0, .int 0, .int 1, .int 1], .tup [.int 1, .int 0, .int 1, .int 0, .int 0], .tup [.int 1, .int 0, .int 1, .int 0, .int 1], .tup [.int 1, .int 0, .int 1, .int 1, .int 0], .tup [.int 1, .int 0, .int 1, .int 1, .int 1], .tup [.int 1, .int 1, .int 0, .int 0, .int 0], .tup [.int 1, .int 1, .int 0, .int 0, .int 1], .tup [.int 1, .int 1, .int 0, .int 1, .int 0], .tup [.int 1, .int 1, .int 0, .int 1, .int 1], .tup [.int 1, .int 1, .int 1, .int 0, .int 0], .tup [.int 1, .int 1, .int 1, .int 0, .int 1], .tup [.int 1, .int 1, .int 1, .int 1, .int 0], .tup [.int 1, .int 1, .int 1, .int 1, .int 1]]), (0, .dice)]⟩)
theorem hS_9_13 : (Nat.ble 1 S_9_13.2.nx && K_9 S_9_13.1 S_9_13.2) = true := by decide +kernel
def S_9_14 : SD × Hd := ([none, some (.ref 0), some (.int 5), some (.int 3), some (.ref 253), none, none, none, none, none, none, none, none, none, none, none, none], ⟨254, [(253, .lst [.tup [.int 0, .int 0, .int 0, .int 0, .int 0], .tup [.int 0, .int 0, .int 0, .int 0, .int 1], .tup [.int 0, .int 0, .int 0, .int 0, .int 2], .tup [.int 0, .int 0, .int 0, .int 1, .int 0], .tup [.int 0, .int 0, .int 0, .int 1, .int 1], .tup [.int 0, .int 0, .int 0, .int 1, .int 2], .tup [.int 0, .int 0, .int 0, .int 2, .int 0], .tup [.int 0, .int 0, .int 0, .int 2, .int 1], .tup [.int 0, .int 0, .int 0, .int 2, .int 2], .tup [.int 0, .int 0, .int 1, .int 0, .int 0], .tup [.int 0, .int 0, .int 1, .int 0, .int 1], .tup [.int 0, .int 0, .int 1, .int 0, .int 2], .tup [.int 0, .int 0, .int 1, .int 1, .int 0], .tup [.int 0, .int 0, .int 1, .int 1, .int 1], .tup [.int 0, .int 0, .int 1, .int 1, .int 2], .tup [.int 0, .int 0, .int 1, .int 2, .int 0], .tup [.int 0, .int 0, .int 1, .int 2, .int 1], .tup [.int 0, .int 0, .int 1, .int 2, .int 2], .tup [.int 0, .int 0, .int 2, .int 0, .int 0], .tup [.int 0, .int 0, .int 2, .int 0, .int 1], .tup [.int 0, .int 0, .int 2, .int 0, .int 2], .tup [.int 0, .int 0, .int 2, .int 1, .int 0], .tup [.int 0, .int 0, .int 2, .int 1, .int 1], .tup [.int 0, .int 0, .int 2, .int 1, .int 2], .tup [.int 0, .int 0, .int 2, .int 2, .int 0], .tup [.int 0, .int 0, .int 2, .int 2, .int 1], .tup [.int 0, .int 0, .int 2, .int 2, .int 2], .tup [.int 0, .int 1, .int 0, .int 0, .int 0], .tup [.int 0, .int 1, .int 0, .int 0, .int 1], .tup [.int 0, .int 1, .int 0, .int 0, .int 2], .tup [.int 0, .int 1, .int 0, .int 1, .int 0], .tup [.int 0, .int 1, .int 0, .int 1, .int 1], .tup [.int 0, .int 1, .int 0, .int 1, .int 2], .tup [.int 0, .int 1, .int 0, .int 2, .int 0], .tup [.int 0, .int 1, .int 0, .int 2, .int 1], .tup [.int 0, .int 1, .int 0, .int 2, .int 2], .tup [.int 0, .int 1, .int 1, .int 0, .int 0], .tup [.int 0, .int 1, .int 1, .int 0, .int 1], .tup [.int 0, .int 1, .int 1, .int 0, .int 2], .tup [.int 0, .int 1, .int 1, .int 1, .int 0], .tup [.int 0, .int 1, .int 1, .int 1, .int 1], .tup [.int 0, .int 1, .int 1, .int 1, .int 2], .tup [.int 0, .int 1, .int 1, .int 2, .int 0], .tup [.int 0, .int 1, .int 1, .int 2, .int 1], .tup [.int 0, .int 1, .int 1, .int 2, .int 2], .tup [.int 0, .int 1, .int 2, .int 0, .int 0], .tup [.int 0, .int 1, .int 2, .int 0, .int 1], .tup [.int 0, .int 1, .int 2, .int 0, .int 2], .tup [.int 0, .int 1, .int 2, .int 1, .int 0], .tup [.int 0, .int 1, .int 2, .int 1, .int 1], .tup [.int 0, .int 1, .int 2, .int 1, .int 2], .tup [.int 0, .int 1, .int 2, .int 2, .int 0], .tup [.int 0, .int 1, .int 2, .int 2, .int 1], .tup [.int 0, .int 1, .int 2, .int 2, .int 2], .tup [.int 0, .int 2, .int 0, .int 0, .int 0], .tup [.int 0, .int 2, .int 0, .int 0, .int 1], .tup [.int 0, .int 2, .int 0, .int 0, .int 2], .tup [.int 0, .int 2, .int 0, .int 1, .int 0], .tup [.int 0, .int 2, .int 0, .int 1, .int 1], .tup [.int 0, .int 2, .int 0, .int 1, .int 2], .tup [.int 0, .int 2, .int 0, .int 2, .int 0], .tup [.int 0, .int 2, .int 0, .int 2, .int 1], .tup [.int 0, .int 2, .int 0, .int 2, .int 2], .tup [.int 0, .int 2, .int 1, .int 0, .int 0], .tup [.int 0, .int 2, .int 1, .int 0, .int 1], .tup [.int 0, .int 2, .int 1, .int 0, .int 2], .tup [.int 0, .int 2, .int 1, .int 1, .int 0], .tup [.int 0, .int 2, .int 1, .int 1, .int 1], .tup [.int 0, .int 2, .int 1, .int 1, .int 2], .tup [.int 0, .int 2, .int 1, .int 2, .int 0], .tup [.int 0, .int 2, .int 1, .int 2, .int 1], .tup [.int 0, .int 2, .int 1, .int 2, .int 2], .tup [.int 0, .int 2, .int 2, .int 0, .int 0], .tup [.int 0, .int 2, .int 2, .int 0, .int 1], .tup [.int 0, .int 2, .int 2, .int 0, .int 2], .tup [.int 0, .int 2, .int 2, .int 1, .int 0], .tup [.int 0, .int 2, .int 2, .int 1, .int 1], .tup [.int 0, .int 2, .int 2, .int 1, .int 2], .tup [.int 0, .int 2, .int 2, .int 2, .int 0], .tup [.int 0, .int 2, .int 2, .int 2, .int 1], .tup [.int 0, .int 2, .int 2, .int 2, .int 2], .tup [.int 1, .int 0, .int 0, .int 0, .int 0], .tup [.int 1, .int 0, .int 0, .int 0, .int 1], .tup [.int 1, .int 0, .int 0, .int 0, .int 2], .tup [.int 1, .int 0, .int 0, .int 1, .int 0], .tup [.int 1, .int 0, .int 0, .int 1, .int 1], .tup [.int 1, .int 0, .int 0, .int 1, .int 2], .tup [.int 1, .int 0, .int 0, .int 2, .int 0], .tup [.int 1, .int 0, .int 0, .int 2, .int 1], .tup [.int 1, .int 0, .int 0, .int 2, .int 2], .tup [.int 1, .int 0, .int 1, .int 0, .int 0], .tup [.int 1, .int 0, .int 1, .int 0, .int 1], .tup [.int 1, .int 0, .int 1, .int 0, .int 2], .tup [.int 1, .int 0, .int 1, .int 1, .int 0], .tup [.int 1, .int 0, .int 1, .int 1, .int 1], .tup [.int 1, .int 0, .int 1, .int 1, .int 2], .tup [.int 1, .int 0, .int 1, .int 2, .int 0], .tup [.int 1, .int 0, .int 1, .int 2, .int 1], .tup [.int 1, .int 0, .int 1, .int 2, .int 2], .tup [.int 1, .int 0, .int 2, .int 0, .int 0], .tup [.int 1, .int 0, .int 2, .int 0, .int 1], .tup [.int 1, .int 0, .int 2, .int 0, .int 2], .tup [.int 1, .int 0, .int 2, .int 1, .int 0], .tup [.int 1, .int 0, .int 2, .int 1, .int 1], .tup [.int 1, .int 0, .int 2, .int 1, .int 2], .tup [.int 1, .int 0, .int 2, .int 2, .int 0], .tup [.int 1, .int 0, .int 2, .int 2, .int 1], .tup [.int 1, .int 0, .int 2, .int 2, .int 2], .tup [.int 1, .int 1, .int 0, .int 0, .int 0], .tup [.int 1, .int 1, .int 0, .int 0, .int 1], .tup [.int 1, .int 1, .int 0, .int 0, .int 2], .tup [.int 1, .int 1, .int 0, .int 1, .int 0], .tup [.int 1, .int 1, .int 0, .int 1, .int 1], .tup [.int 1, .int 1, .int 0, .int 1, .int 2], .tup [.int 1, .int 1, .int 0, .int 2, .int 0], .tup [.int 1, .int 1, .int 0, .int 2, .int 1], .tup [.int 1, .int 1, .int 0, .int 2, .int 2], .tup [.int 1, .int 1, .int 1, .int 0, .int 0], .tup [.int 1, .int 1, .int 1, .int 0, .int 1], .tup [.int 1, .int 1, .int 1, .int 0, .int 2], .tup [.int 1, .int 1, .int 1, .int 1, .int 0], .tup [.int 1, .int 1, .int 1, .int 1, .int 1], .tup [.int 1, .int 1, .int 1, .int 1, .int 2], .tup [.int 1, .int 1, .int 1, .int 2, .int 0], .tup [.int 1, .int 1, .int 1, .int 2, .int 1], .tup [.int 1, .int 1, .int 1, .int 2, .int 2], .tup [.int 1, .int 1, .int 2, .int 0, .int 0], .tup [.int 1, .int 1, .int 2, .int 0, .int 1], .tup [.int 1, .int 1, .int 2, .int 0, .int 2], .tup [.int 1, .int 1, .int 2, .int 1, .int 0], .tup [.int 1, .int 1, .int 2, .int 1, .int 1], .tup [.int 1, .int 1, .int 2, .int 1, .int 2], .tup [.int 1, .int 1, .int 2, .int 2, .int 0], .tup [.int 1, .int 1, .int 2, .int 2, .int 1], .tup [.int 1, .int 1, .int 2, .int 2, .int 2], .tup [.int 1, .int 2, .int 0, .int 0, .int 0], .tup [.int 1, .int 2, .int 0, .int 0, .int 1], .tup [.int 1, .int 2, .int 0, .int 0, .int 2], .tup [.int 1, .int 2, .int 0, .int 1, .int 0], .tup [.int 1, .int 2, .int 0, .int 1, .int 1], .tup [.int 1, .int 2, .int 0, .int 1, .int 2], .tup [.int 1, .int 2, .int 0, .int 2, .int 0], .tup [.int 1, .int 2, .int 0, .int 2, .int 1], .tup [.int 1, .int 2, .int 0, .int 2, .int 2], .tup [.int 1, .int 2, .int 1, .int 0, .int 0], .tup [.int 1, .int 2, .int 1, .int 0, .int 1], .tup [.int 1, .int 2, .int 1, .int 0, .int 2], .tup [.int 1, .int 2, .int 1, .int 1, .int 0], .tup [.int 1, .int 2, .int 1, .int 1, .int 1], .tup [.int 1, .int 2, .int 1, .int 1, .int 2], .tup [.int 1, .int 2, .int 1, .int 2, .int 0], .tup [.int 1, .int 2, .int 1, .int 2, .int 1], .tup [.int 1, .int 2, .int 1, .int 2, .int 2], .tup [.int 1, .int 2, .int 2, .int 0, .int 0], .tup [.int 1, .int 2, .int 2, .int 0, .int 1], .tup [.int 1, .int 2, .int 2, .int 0, .int 2], .tup [.int 1, .int 2, .int 2, .int 1, .int 0], .tup [.int 1, .int 2, .int 2, .int 1, .int 1], .tup [.int 1, .int 2, .int 2, .int 1, .int 2], .tup [.int 1, .int 2, .int 2, .int 2, .int 0], .tup [.int 1, .int 2, .int 2, .int 2, .int 1], .tup [.int 1, .int 2, .int 2, .int 2, .int 2], .tup [.int 2, .int 0, .int 0, .int 0, .int 0], .tup [.int 2, .int 0, .int 0, .int 0, .int 1], .tup [.int 2, .int 0, .int 0, .int 0, .int 2], .tup [.int 2, .int 0, .int 0, .int 1, .int 0], .tup [.int 2, .int 0, .int 0, .int 1, .int 1], .tup [.int 2, .int 0, .int 0, .int 1, .int 2], .tup [.int 2, .int 0, .int 0, .int 2, .int 0], .tup [.int 2, .int 0, .int 0, .int 2, .int 1], .tup [.int 2, .int 0, .int 0, .int 2, .int 2], .tup [.int 2, .int 0, .int 1, .int 0, .int 0], .tup [.int 2, .int 0, .int 1, .int 0, .int 1], .tup [.int 2, .int 0, .int 1, .int 0, .int 2], .tup [.int 2, .int 0, .int 1, .int 1, .int 0], .tup [.int 2, .int 0, .int 1, .int 1, .int 1], .tup [.int 2, .int 0, .int 1, .int 1, .int 2], .tup [.int 2, .int 0, .int 1, .int 2, .int 0], .tup [.int 2, .int 0, .int 1, .int 2, .int 1], .tup [.int 2, .int 0, .int 1, .int 2, .int 2], .tup [.int 2, .int 0, .int 2, .int 0, .int 0], .tup [.int 2, .int 0, .int 2, .int 0, .int 1], .tup [.int 2, .int 0, .int 2, .int 0, .int 2], .tup [.int 2, .int 0, .int 2, .int 1, .int 0], .tup [.int 2, .int 0, .int 2, .int 1, .int 1], .tup [.int 2, .int 0, .int 2, .int 1, .int 2], .tup [.int 2, .int 0, .int 2, .int 2, .int 0], .tup [.int 2, .int 0, .int 2, .int 2, .int 1], .tup [.int 2, .int 0, .int 2, .int 2, .int 2], .tup [.int 2, .int 1, .int 0, .int 0, .int 0], .tup [.int 2, .int 1, .int 0, .int 0, .int 1], .tup [.int 2, .int 1, .int 0, .int 0, .int 2], .tup [.int 2, .int 1, .int 0, .int 1, .int 0], .tup [.int 2, .int 1, .int 0, .int 1, .int 1], .tup [.int 2, .int 1, .int 0, .int 1, .int 2], .tup [.int 2, .int 1, .int 0, .int 2, .int 0], .tup [.int 2, .int 1, .int 0, .int 2, .int 1], .tup [.int 2, .int 1, .int 0, .int 2, .int 2], .tup [.int 2, .int 1, .int 1, .int 0, .int 0], .tup [.int 2, .int 1, .int 1, .int 0, .int 1], .tup [.int 2, .int 1, .int 1, .int 0, .int 2], .tup [.int 2, .int 1, .int 1, .int 1, .int 0], .tup [.int 2, .int 1, .int 1, .int 1, .int 1], .tup [.int 2, .int 1, .int 1, .int 1, .int 2], .tup [.int 2, .int 1, .int 1, .int 2, .int 0], .tup [.int 2, .int 1, .int 1, .int 2, .int 1], .tup [.int 2, .int 1, .int 1, .int 2, .int 2], .tup [.int 2, .int 1, .int 2, .int 0, .int 0], .tup [.int 2, .int 1, .int 2, .int 0, .int 1], .tup [.int 2, .int 1, .int 2, .int 0, .int 2], .tup [.int 2, .int 1, .int 2, .int 1, .int 0], .tup [.int 2, .int 1, .int 2, .int 1, .int 1], .tup [.int 2, .int 1, .int 2, .int 1, .int 2], .tup [.int 2, .int 1, .int 2, .int 2, .int 0], .tup [.int 2, .int 1, .int 2, .int 2, .int 1], .tup [.int 2, .int 1, .int 2, .int 2, .int 2], .tup [.int 2, .int 2, .int 0, .int 0, .int 0], .tup [.int 2, .int 2, .int 0, .int 0, .int 1], .tup [.int 2, .int 2, .int 0, .int 0, .int 2], .tup [.int 2, .int 2, .int 0, .int 1, .int 0], .tup [.int 2, .int 2, .int 0, .int 1, .int 1], .tup [.int 2, .int 2, .int 0, .int 1, .int 2], .tup [.int 2, .int 2, .int 0, .int 2, .int 0], .tup [.int 2, .int 2, .int 0, .int 2, .int 1], .tup [.int 2, .int 2, .int 0, .int 2, .int 2], .tup [.int 2, .int 2, .int 1, .int 0, .int 0], .tup [.int 2, .int 2, .int 1, .int 0, .int 1], .tup [.int 2, .int 2, .int 1, .int 0, .int 2], .tup [.int 2, .int 2, .int 1, .int 1, .int 0], .tup [.int 2, .int 2, .int 1, .int 1, .int 1], .tup [.int 2, .int 2, .int 1, .int 1, .int 2], .tup [.int 2, .int 2, .int 1, .int 2, .int 0], .tup [.int 2, .int 2, .int 1, .int 2, .int 1], .tup [.int 2, .int 2, .int 1, .int 2, .int 2], .tup [.int 2, .int 2, .int 2, .int 0, .int 0], .tup [.int 2, .int 2, .int 2, .int 0, .int 1], .tup [.int 2, .int 2, .int 2, .int 0, .int 2], .tup [.int 2, .int 2, .int 2, .int 1, .int 0], .tup [.int 2, .int 2, .int 2, .int 1, .int 1], .tup [.int 2, .int 2, .int 2, .int 1, .int 2], .tup [.int 2, .int 2, .int 2, .int 2, .int 0], .tup [.int 2, .int 2, .int 2, .int 2, .int 1], .tup [.int 2, .int 2, .int 2, .int 2, .int 2]]), (0, .dice)]⟩)
theorem hS_9_14 : (Nat.ble 1 S_9_14.2.nx && K_9 S_9_14.1 S_9_14.2) = true := by decide +kernel
def S_9_15 : SD × Hd := ([none, some (.ref 0), some (.int 6), some (.int 1), some (.ref 25), none, none, none, none, none, none, none, none, none, none, none, none], ⟨26, [(25, .lst [.tup [.int 0, .int 0, .int 0, .int 0, .int 0, .int 0]]), (0, .dice)]⟩)
theorem hS_9_15 : (Nat.ble 1 S_9_15.2.nx && K_9 S_9_15.1 S_9_15.2) = true := by decide +kernel
def S_9_16 : SD × Hd := ([none, some (.ref 0), some (.int 6), some (.int 2), some (.ref 139), none, none, none, none, none, none, none, none, none, none, none, none], ⟨140, [(139, .lst [.tup [.int 0, .int 0, .int 0, .int 0, .int 0, .int 0], .tup [.int 0, .int 0, .int 0, .int 0, .int 0, .int 1], .tup [.int 0, .int 0, .int 0, .int 0, .int 1, .int 0], .tup [.int 0, .int 0, .int 0, .int 0, .int 1, .int 1], .tup [.int 0, .int 0, .int 0, .int 1, .int 0, .int 0], .tup [.int 0, .int 0, .int 0, .int 1, .int 0, .int 1], .tup [.int 0, .int 0, .int 0, .int 1, .int 1, .int 0], .tup [.int 0, .int 0, .int 0, .int 1, .int 1, .int 1], .tup [.int 0, .int 0, .int 1, .int 0, .int 0, .int 0], .tup [.int 0, .int 0, .int 1, .int 0, .int 0, .int 1], .tup [.int 0, .int 0, .int 1, .int 0, .int 1, .int 0], .tup [.int 0, .int 0, .int 1, .int 0, .int 1, .int 1], .tup [.int 0, .int 0, .int 1, .int 1, .int 0, .int 0], .tup [.int 0, .int 0, .int 1, .int 1, .int 0, .int 1], .tup [.int 0, .int 0, .int 1, .int 1, .int 1, .int 0], .tup [.int 0, .int 0, .int 1, .int 1, .int 1, .int 1], .tup [.int 0, .int 1, .int 0, .int 0, .int 0, .int 0], .tup [.int 0, .int 1, .int 0, .int 0, .int 0, .int 1], .tup [.int 0, .int 1, .int 0, .int 0, .int 1, .int 0], .tup [.int 0, .int 1, .int 0, .int 0, .int 1, .int 1], .tup [.int 0, .int 1, .int 0, .int 1, .int 0, .int 0], .tup [.int 0, .int 1, .int 0, .int 1, .int 0, .int 1], .tup [.int 0, .int 1, .int 0, .int 1, .int 1, .int 0], .tup [.int 0, .int 1, .int 0, .int 1, .int 1, .int 1], .tup [.int 0, .int 1, .int 1, .int 0, .int 0, .int 0], .tup [.int 0, .int 1, .int 1, .int 0, .int 0, .int 1], .tup [.int 0, .int 1, .int 1, .int 0, .int 1, .int 0], .tup [.int 0, .int 1, .int 1, .int 0, .int 1, .int 1], .tup [.int 0, .int 1, .int 1, .int 1, .int 0, .int 0], .tup [.int 0, .int 1, .int 1, .int 1, .int 0, .int 1], .tup [.int 0, .int 1, .int 1, .int 1, .int 1, .int 0], .tup [.int 0, .int 1, .int 1, .int 1, .int 1, .int 1], .tup [.int 1, .int 0, .int 0, .int 0, .int 0, .int 0], .tup [.int 1, .int 0, .int 0, .int 0, .int 0, .int 1], .tup [.int 1, .int 0, .int 0, .int 0, .int 1, .int 0], .tup [.int 1, .int 0, .int 0, .int 0, .int 1, .int 1], .tup [.int 1, .int 0, .int 0, .int 1, .int 0, .int 0], .tup [.int 1, .int 0, .int 0, .int 1, .int 0, .int 1], .tup [.int 1, .int 0, .int 0, .int 1, .int 1, .int 0], .tup [.int 1, .int 0, .int 0, .int 1, .int 1, .int 1], .tup [.int 1, .int 0, .int 1, .int 0, .int 0, .int 0], .tup [.int 1, .int 0, .int 1, .int 0, .int 0, .int 1], .tup [.int 1, .int 0, .int 1, .int 0, .int 1, .int 0], .tup [.int 1, .int 0, .int 1, .int 0, .int 1, .int 1], .tup [.int 1, .int 0, .int 1, .int 1, .int 0, .int 0], .tup [.int 1, .int 0, .int 1, .int 1, .int 0, .int 1], .tup [.int 1, .int 0, .int 1, .int 1, .int 1, .int 0], .tup [.int 1, .int 0, .int 1, .int 1, .int 1, .int 1], .tup [.int 1, .int 1, .int 0, .int 0, .int 0, .int 0], .tup [.int 1, .int 1, .int 0, .int 0, .int 0, .int 1], .tup [.int 1, .int 1, .int 0, .int 0, .int 1, .int 0], .tup [.int 1, .int 1, .int 0, .int 0, .int 1, .int 1], .tup [.int 1, .int 1, .int 0, .int 1, .int 0, .int 0], .tup [.int 1, .int 1, .int 0, .int 1, .int 0, .int 1], .tup [.int 1, .int 1, .int 0, .int 1, .int 1, .int 0], .tup [.int 1, .int 1, .int 0, .int 1, .int 1, .int 1], .tup [.int 1, .int 1, .int 1, .int 0, .int 0, .int 0], .tup [.int 1, .int 1, .int 1, .int 0, .int 0, .int 1], .tup [.int 1, .int 1, .int 1, .int 0, .int 1, .int 0], .tup [.int 1, .int 1, .int 1, .int 0, .int 1, .int 1], .tup [.int 1, .int 1, .int 1, .int 1, .int 0, .int 0], .tup [.int 1, .int 1, .int 1, .int 1, .int 0, .int 1], .tup [.int 1, .int 1, .int 1, .int 1, .int 1, .int 0], .tup [.int 1, .int 1, .int 1, .int 1, .int 1, .int 1]]), (0, .dice)]⟩)
theorem hS_9_16 : (Nat.ble 1 S_9_16.2.nx && K_9 S_9_16.1 S_9_16.2) = true := by decide +kernel
def S_9_17 : SD × Hd := ([none, some (.ref 0), some (.int 6), some (.int 3), some (.ref 741), none, none, none, none, none, none, none, none, none, none, none, none], ⟨742, [(741, .lst [.tup [.int 0, .int 0, .int 0, .int 0, .int 0, .int 0], .tup [.int 0, .int 0, .int 0, .int 0, .int 0, .int 1], .tup [.int 0, .int 0, .int 0, .int 0, .int 0, .int 2], .tup [.int 0, .int 0, .int 0, .int 0, .int 1, .int 0], .tup [.int 0, .int 0, .int 0, .int 0, .int 1, .int 1], .tup [.int 0, .int 0, .int 0, .int 0, .int 1, .int 2], .tup [.int 0, .int 0, .int 0, .int 0, .int 2, .int 0], .tup [.int 0, .int 0, .int 0, .int 0, .int 2, .int 1], .tup [.int 0, .int 0, .int 0, .int 0, .int 2, .int 2], .tup [.int 0, .int 0, .int 0, .int 1, .int 0, .int 0], .tup [.int 0, .int 0, .int 0, .int 1, .int 0, .int 1], .tup [.int 0, .int 0, .int 0, .int 1, .int 0, .int 2], .tup [.int 0, .int 0, .int 0, .int 1, .int 1, .int 0], .tup [.int 0, .int 0, .int 0, .int 1, .int 1, .int 1], .tup [.int 0, .int 0, .int 0, .int 1, .int 1, .int 2], .tup [.int 0, .int 0, .int 0, .int 1, .int 2, .int 0], .tup [.int 0, .int 0, .int 0, .int 1, .int 2, .int 1], .tup [.int 0, .int 0, .int 0, .int 1, .int 2, .int 2], .tup [.int 0, .int 0, .int 0, .int 2, .int 0, .int 0], .tup [.int 0, .int 0, .int 0, .int 2, .int 0, .int 1], .tup [.int 0, .int 0, .int 0, .int 2, .int 0, .int 2], .tup [.int 0, .int 0, .int 0, .int 2, .int 1, .int 0], .tup [.int 0, .int 0, .int 0, .int 2, .int 1, .int 1], .tup [.int 0, .int 0, .int 0, .int 2, .int 1, .int 2], .tup [.int 0, .int 0, .int 0, .int 2, .int 2, .int 0], .tup [.int 0, .int 0, .int 0, .int 2, .int 2, .int 1], .tup [.int 0, .int 0, .int 0, .int 2, .int 2, .int 2], .tup [.int 0, .int 0, .int 1, .int 0, .int 0, .int 0], .tup [.int 0, .int 0, .int 1, .int 0, .int 0, .int 1], .tup [.int 0, .int 0, .int 1, .int 0, .int 0, .int 2], .tup [.int 0, .int 0, .int 1, .int 0, .int 1, .int 0], .tup [.int 0, .int 0, .int 1, .int 0, .int 1, .int 1], .tup [.int 0, .int 0, .int 1, .int 0, .int 1, .int 2], .tup [.int 0, .int 0, .int 1, .int 0, .int 2, .int 0], .tup [.int 0, .int 0, .int 1, .int 0, .int 2, .int 1], .tup [.int 0, .int 0, .int 1, .int 0, .int 2, .int 2], .tup [.int 0, .int 0, .int 1, .int 1, .int 0, .int 0], .tup [.int 0, .int 0, .int 1, .int 1, .int 0, .int 1], .tup [.int 0, .int 0, .int 1, .int 1, .int 0, .int 2], .tup [.int 0, .int 0, .int 1, .int 1, .int 1, .int 0], .tup [.int 0, .int 0, .int 1, .int 1, .int 1, .int 1], .tup [.int 0, .int 0, .int 1, .int 1, .int 1, .int 2], .tup [.int 0, .int 0, .int 1, .int 1, .int 2, .int 0], .tup [.int 0, .int 0, .int 1, .int 1, .int 2, .int 1], .tup [.int 0, .int 0, .int 1, .int 1, .int 2, .int 2], .tup [.int 0, .int 0, .int 1, .int 2, .int 0, .int 0], .tup [.int 0, .int 0, .int 1, .int 2, .int 0, .int 1], .tup [.int 0, .int 0, .int 1, .int 2, .int 0, .int 2], .tup [.int 0, .int 0, .int 1, .int 2, .int 1, .int 0], .tup [.int 0, .int 0, .int 1, .int 2, .int 1, .int 1], .tup [.int 0, .int 0, .int 1, .int 2, .int 1, .int 2], .tup [.int 0, .int 0, .int 1, .int 2, .int 2, .int 0], .tup [.int 0, .int 0, .int 1, .int 2, .int 2, .int 1], .tup [.int 0, .int 0, .int 1, .int 2, .int 2, .int 2], .tup [.int 0, .int 0, .int 2, .int 0, .int 0, .int 0], .tup [.int 0, .int 0, .int 2, .int 0, .int 0, .int 1], .tup [.int 0, .int 0, .int 2, .int 0, .int 0, .int 2], .tup [.int 0, .int 0, .int 2, .int 0, .int 1, .int 0], .tup [.int 0, .int 0, .int 2, .int 0, .int 1, .int 1], .tup [.int 0, .int 0, .int 2, .int 0, .int 1, .int 2], .tup [.int 0, .int 0, .int 2, .int 0, .int 2, .int 0], .tup [.int 0, .int 0, .int 2, .int 0, .int 2, .int 1], .tup [.int 0, .int 0, .int 2, .int 0, .int 2, .int 2], .tup [.int 0, .int 0, .int 2, .int 1, .int 0, .int 0], .tup [.int 0, .int 0, .int 2, .int 1, .int 0, .int 1], .tup [.int 0, .int 0, .int 2, .int 1, .int 0, .int 2], .tup [.int 0, .int 0, .int 2, .int 1, .int 1, .int 0], .tup [.int 0, .int 0, .int 2, .int 1, .int 1, .int 1], .tup [.int 0, .int 0, .int 2, .int 1, .int 1, .int 2], .tup [.int 0, .int 0, .int 2, .int 1, .int 2, .int 0], .tup [.int 0, .int 0, .int 2, .int 1, .int 2, .int 1], .tup [.int 0, .int 0, .int 2, .int 1, .int 2, .int 2], .tup [.int 0, .int 0, .int 2, .int 2, .int 0, .int 0], .tup [.int 0, .int 0, .int 2, .int 2, .int 0, .int 1], .tup [.int 0, .int 0, .int 2, .int 2, .int 0, .int 2], .tup [.int 0, .int 0, .int 2, .int 2, .int 1, .int 0], .tup [.int 0, .int 0, .int 2, .int 2, .int 1, .int 1], .tup [.int 0, .int 0, .int 2, .int 2, .int 1, .int 2], .tup [.int 0, .int 0, .int 2, .int 2, .int 2, .int 0], .tup [.int 0, .int 0, .int 2, .int 2, .int 2, .int 1], .tup [.int 0, .int 0, .int 2, .int 2, .int 2, .int 2], .tup [.int 0, .int 1, .int 0, .int 0, .int 0, .int 0], .tup [.int 0, .int 1, .int 0, .int 0, .int 0, .int 1], .tup [.int 0, .int 1, .int 0, .int 0, .int 0, .int 2], .tup [.int 0, .int 1, .int 0, .int 0, .int 1, .int 0], .tup [.int 0, .int 1, .int 0, .int 0, .int 1, .int 1], .tup [.int 0, .int 1, .int 0, .int 0, .int 1, .int 2], .tup [.int 0, .int 1, .int 0, .int 0, .int 2, .int 0], .tup [.int 0, .int 1, .int 0, .int 0, .int 2, .int 1], .tup [.int 0, .int 1, .int 0, .int 0, .int 2, .int 2], .tup [.int 0, .int 1, .int 0, .int 1, .int 0, .int 0], .tup [.int 0, .int 1, .int 0, .int 1, .int 0, .int 1], .tup [.int 0, .int 1, .int 0, .int 1, .int 0, .int 2], .tup [.int 0, .int 1, .int 0, .int 1, .int 1, .int 0], .tup [.int 0, .int 1, .int 0, .int 1, .int 1, .int 1], .tup [.int 0, .int 1, .int 0, .int 1, .int 1, .int 2], .tup [.int 0, .int 1, .int 0, .int 1, .int 2, .int 0], .tup [.int 0, .int 1, .int 0, .int 1, .int 2, .int 1], .tup [.int 0, .int 1, .int 0, .int 1, .int 2, .int 2], .tup [.int 0, .int 1, .int 0, .int 2, .int 0, .int 0], .tup [.int 0, .int 1, .int 0, .int 2, .int 0, .int 1], .tup [.int 0, .int 1, .int 0, .int 2, .int 0, .int 2], .tup [.int 0, .int 1, .int 0, .int 2, .int 1, .int 0], .tup [.int 0, .int 1, .int 0, .int 2, .int 1, .int 1], .tup [.int 0, .int 1, .int 0, .int 2, .int 1, .int 2], .tup [.int 0, .int 1, .int 0, .int 2, .int 2, .int 0], .tup [.int 0, .int 1, .int 0, .int 2, .int 2, .int 1], .tup [.int 0, .int 1, .int 0, .int 2, .int 2, .int 2], .tup [.int 0, .int 1, .int 1, .int 0, .int 0, .int 0], .tup [.int 0, .int 1, .int 1, .int 0, .int 0, .int 1], .tup [.int 0, .int 1, .int 1, .int 0, .int 0, .int 2], .tup [.int 0, .int 1, .int 1, .int 0, .int 1, .int 0], .tup [.int 0, .int 1, .int 1, .int 0, .int 1, .int 1], .tup [.int 0, .int 1, .int 1, .int 0, .int 1, .int 2], .tup [.int 0, .int 1, .int 1, .int 0, .int 2, .int 0], .tup [.int 0, .int 1, .int 1, .int 0, .int 2, .int 1], .tup [.int 0, .int 1, .int 1, .int 0, .int 2, .int 2], .tup [.int 0, .int 1, .int 1, .int 1, .int 0, .int 0], .tup [.int 0, .int 1, .int 1, .int 1, .int 0, .int 1], .tup [.int 0, .int 1, .int 1, .int 1, .int 0, .int 2], .tup [.int 0, .int 1, .int 1, .int 1, .int 1, .int 0], .tup [.int 0, .int 1, .int 1, .int 1, .int 1, .int 1], .tup [.int 0, .int 1, .int 1, .int 1, .int 1, .int 2], .tup [.int 0, .int 1, .int 1, .int 1, .int 2, .int 0], .tup [.int 0, .int 1, .int 1, .int 1, .int 2, .int 1], .tup [.int 0, .int 1, .int 1, .int 1, .int 2, .int 2], .tup [.int 0, .int 1, .int 1, .int 2, .int 0, .int 0], .tup [.int 0, .int 1, .int 1, .int 2, .int 0, .int 1], .tup [.int 0, .int 1, .int 1, .int 2, .int 0, .int 2], .tup [.int 0, .int 1, .int 1, .int 2, .int 1, .int 0], .tup [.int 0, .int 1, .int 1, .int 2, .int 1, .int 1], .tup [.int 0, .int 1, .int 1, .int 2, .int 1, .int 2], .tup [.int 0, .int 1, .int 1, .int 2, .int 2, .int 0], .tup [.int 0, .int 1, .int 1, .int 2, .int 2, .int 1], .tup [.int 0, .int 1, .int 1, .int 2, .int 2, .int 2], .tup [.int 0, .int 1, .int 2, .int 0, .int 0, .int 0], .tup [.int 0, .int 1, .int 2, .int 0, .int 0, .int 1], .tup [.int 0, .int 1, .int 2, .int 0, .int 0, .int 2], .tup [.int 0, .int 1, .int 2, .int 0, .int 1, .int 0], .tup [.int 0, .int 1, .int 2, .int 0, .int 1, .int 1], .tup [.int 0, .int 1, .int 2, .int 0, .int 1, .int 2], .tup [.int 0, .int 1, .int 2, .int 0, .int 2, .int 0], .tup [.int 0, .int 1, .int 2, .int 0, .int 2, .int 1], .tup [.int 0, .int 1, .int 2, .int 0, .int 2, .int 2], .tup [.int 0, .int 1, .int 2, .int 1, .int 0, .int 0], .tup [.int 0, .int 1, .int 2, .int 1, .int 0, .int 1], .tup [.int 0, .int 1, .int 2, .int 1, .int 0, .int 2], .tup [.int 0, .int 1, .int 2, .int 1, .int 1, .int 0], .tup [.int 0, .int 1, .int 2, .int 1, .int 1, .int 1], .tup [.int 0, .int 1, .int 2, .int 1, .int 1, .int 2], .tup [.int 0, .int 1, .int 2, .int 1, .int 2, .int 0], .tup [.int 0, .int 1, .int 2, .int 1, .int 2, .int 1], .tup [.int 0, .int 1, .int 2, .int 1, .int 2, .int 2], .tup [.int 0, .int 1, .int 2, .int 2, .int 0, .int 0], .tup [.int 0, .int 1, .int 2, .int 2, .int 0, .int 1], .tup [.int 0, .int 1, .int 2, .int 2, .int 0, .int 2], .tup [.int 0, .int 1, .int 2, .int 2, .int 1, .int 0], .tup [.int 0, .int 1, .int 2, .int 2, .int 1, .int 1], .tup [.int 0, .int 1, .int 2, .int 2, .int 1, .int 2], .tup [.int 0, .int 1, .int 2, .int 2, .int 2, .int 0], .tup [.int 0, .int 1, .int 2, .int 2, .int 2, .int 1], .tup [.int 0, .int 1, .int 2, .int 2, .int 2, .int 2], .tup [.int 0, .int 2, .int 0, .int 0, .int 0, .int 0], .tup [.int 0, .int 2, .int 0, .int 0, .int 0, .int 1], .tup [.int 0, .int 2, .int 0, .int 0, .int 0, .int 2], .tup [.int 0, .int 2, .int 0, .int 0, .int 1, .int 0], .tup [.int 0, .int 2, .int 0, .int 0, .int 1, .int 1], .tup [.int 0, .int 2, .int 0, .int 0, .int 1, .int 2], .tup [.int 0, .int 2, .int 0, .int 0, .int 2, .int 0], .tup [.int 0, .int 2, .int 0, .int 0, .int 2, .int 1], .tup [.int 0, .int 2, .int 0, .int 0, .int 2, .int 2], .tup [.int 0, .int 2, .int 0, .int 1, .int 0, .int 0], .tup [.int 0, .int 2, .int 0, .int 1, .int 0, .int 1], .tup [.int 0, .int 2, .int 0, .int 1, .int 0, .int 2], .tup [.int 0, .int 2, .int 0, .int 1, .int 1, .int 0], .tup [.int 0, .int 2, .int 0, .int 1, .int 1, .int 1], .tup [.int 0, .int 2, .int 0, .int 1, .int 1, .int 2], .tup [.int 0, .int 2, .int 0, .int 1, .int 2, .int 0], .tup [.int 0, .int 2, .int 0, .int 1, .int 2, .int 1], .tup [.int 0, .int 2, .int 0, .int 1, .int 2, .int 2], .tup [.int 0, .int 2, .int 0, .int 2, .int 0, .int 0], .tup [.int 0, .int 2, .int 0, .int 2, .int 0, .int 1], .tup [.int 0, .int 2, .int 0, .int 2, .int 0, .int 2], .tup [.int 0, .int 2, .int 0, .int 2, .int 1, .int 0], .tup [.int 0, .int 2, .int 0, .int 2, .int 1, .int 1], .tup [.int 0, .int 2, .int 0, .int 2, .int 1, .int 2], .tup [.int 0, .int 2, .int 0, .int 2, .int 2, .int 0], .tup [.int 0, .int 2, .int 0, .int 2, .int 2, .int 1], .tup [.int 0, .int 2, .int 0, .int 2, .int 2, .int 2], .tup [.int 0, .int 2, .int 1, .int 0, .int 0, .int 0], .tup [.int 0, .int 2, .int 1, .int 0, .int 0, .int 1], .tup [.int 0, .int 2, .int 1, .int 0, .int 0, .int 2], .tup [.int 0, .int 2, .int 1, .int 0, .int 1, .int 0], .tup [.int 0, .int 2, .int 1, .int 0, .int 1, .int 1], .tup [.int 0, .int 2, .int 1, .int 0, .int 1, .int 2], .tup [.int 0, .int 2, .int 1, .int 0, .int 2, .int 0], .tup [.int 0, .int 2, .int 1, .int 0, .int 2, .int 1], .tup [.int 0, .int 2, .int 1, .int 0, .int 2, .int 2], .tup [.int 0, .int 2, .int 1, .int 1, .int 0, .int 0], .tup [.int 0, .int 2, .int 1, .int 1, .int 0, .int 1], .tup [.int 0, .int 2, .int 1, .int 1, .int 0, .int 2], .tup [.int 0, .int 2, .int 1, .int 1, .int 1, .int 0], .tup [.int 0, .int 2, .int 1, .int 1, .int 1, .int 1], .tup [.int 0, .int 2, .int 1, .int 1, .int 1, .int 2], .tup [.int 0, .int 2, .int 1, .int 1, .int 2, .int 0], .tup [.int 0, .int 2, .int 1, .int 1, .int 2, .int 1], .tup [.int 0, .int 2, .int 1, .int 1, .int 2, .int 2], .tup [.int 0, .int 2, .int 1, .int 2, .int 0, .int 0], .tup [.int 0, .int 2, .int 1, .int 2, .int 0, .int 1], .tup [.int 0, .int 2, .int 1, .int 2, .int 0, .int 2], .tup [.int 0, .int 2, .int 1, .int 2, .int 1, .int 0], .tup [.int 0, .int 2, .int 1, .int 2, .int 1, .int 1], .tup [.int 0, .int 2, .int 1, .int 2, .int 1, .int 2], .tup [.int 0, .int 2, .int 1, .int 2, .int 2, .int 0], .tup [.int 0, .int 2, .int 1, .int 2, .int 2, .int 1], .tup [.int 0, .int 2, .int 1, .int 2, .int 2, .int 2], .tup [.int 0, .int 2, .int 2, .int 0, .int 0, .int 0], .tup [.int 0, .int 2, .int 2, .int 0, .int 0, .int 1], .tup [.int 0, .int 2, .int 2, .int 0, .int 0, .int 2], .tup [.int 0, .int 2, .int 2, .int 0, .int 1, .int 0], .tup [.int 0, .int 2, .int 2, .int 0, .int 1, .int 1], .tup [.int 0, .int 2, .int 2, .int 0, .int 1, .int 2], .tup [.int 0, .int 2, .int 2, .int 0, .int 2, .int 0], .tup [.int 0, .int 2, .int 2, .int 0, .int 2, .int 1], .tup [.int 0, .int 2, .int 2, .int 0, .int 2, .int 2], .tup [.int 0, .int 2, .int 2, .int 1, .int 0, .int 0], .tup [.int 0, .int 2, .int 2, .int 1, .int 0, .int 1], .tup [.int 0, .int 2, .int 2, .int 1, .int 0, .int 2], .tup [.int 0, .int 2, .int 2, .int 1, .int 1, .int 0], .tup [.int 0, .int 2, .int 2, .int 1, .int 1, .int 1], .tup [.int 0, .int 2, .int 2, .int 1, .int 1, .int 2], .tup [.int 0, .int 2, .int 2, .int 1, .int 2, .int 0], .tup [.int 0, .int 2, .int 2, .int 1, .int 2, .int 1], .tup [.int 0, .int 2, .int 2, .int 1, .int 2, .int 2], .tup [.int 0, .int 2, .int 2, .int 2, .int 0, .int 0], .tup [.int 0, .int 2, .int 2, .int 2, .int 0, .int 1], .tup [.int 0, .int 2, .int 2, .int 2, .int 0, .int 2], .tup [.int 0, .int 2, .int 2, .int 2, .int 1, .int 0], .tup [.int 0, .int 2, .int 2, .int 2, .int 1, .int 1], .tup [.int 0, .int 2, .int 2, .int 2, .int 1, .int 2], .tup [.int 0, .int 2, .int 2, .int 2, .int 2, .int 0], .tup [.int 0, .int 2, .int 2, .int 2, .int 2, .int 1], .tup [.int 0, .int 2, .int 2, .int 2, .int 2, .int 2], .tup [.int 1, .int 0, .int 0, .int 0, .int 0, .int 0], .tup [.int 1, .int 0, .int 0, .int 0, .int 0, .int 1], .tup [.int 1, .int 0, .int 0, .int 0, .int 0, .int 2], .tup [.int 1, .int 0, .int 0, .int 0, .int 1, .int 0], .tup [.int 1, .int 0, .int 0, .int 0, .int 1, .int 1], .tup [.int 1, .int 0, .int 0, .int 0, .int 1, .int 2], .tup [.int 1, .int 0, .int 0, .int 0, .int 2, .int 0], .tup [.int 1, .int 0, .int 0, .int 0, .int 2, .int 1], .tup [.int 1, .int 0, .int 0, .int 0, .int 2, .int 2], .tup [.int 1, .int 0, .int 0, .int 1, .int 0, .int 0], .tup [.int 1, .int 0, .int 0, .int 1, .int 0, .int 1], .tup [.int 1, .int 0, .int 0, .int 1, .int 0, .int 2], .tup [.int 1, .int 0, .int 0, .int 1, .int 1, .int 0], .tup [.int 1, .int 0, .int 0, .int 1, .int 1, .int 1], .tup [.int 1, .int 0, .int 0, .int 1, .int 1, .int 2], .tup [.int 1, .int 0, .int 0, .int 1, .int 2, .int 0], .tup [.int 1, .int 0, .int 0, .int 1, .int 2, .int 1], .tup [.int 1, .int 0, .int 0, .int 1, .int 2, .int 2], .tup [.int 1, .int 0, .int 0, .int 2, .int 0, .int 0], .tup [.int 1, .int 0, .int 0, .int 2, .int 0, .int 1], .tup [.int 1, .int 0, .int 0, .int 2, .int 0, .int 2], .tup [.int 1, .int 0, .int 0, .int 2, .int 1, .int 0], .tup [.int 1, .int 0, .int 0, .int 2, .int 1, .int 1], .tup [.int 1, .int 0, .int 0, .int 2, .int 1, .int 2], .tup [.int 1, .int 0, .int 0, .int 2, .int 2, .int 0], .tup [.int 1, .int 0, .int 0, .int 2, .int 2, .int 1], .tup [.int 1, .int 0, .int 0, .int 2, .int 2, .int 2], .tup [.int 1, .int 0, .int 1, .int 0, .int 0, .int 0], .tup [.int 1, .int 0, .int 1, .int 0, .int 0, .int 1], .tup [.int 1, .int 0, .int 1, .int 0, .int 0, .int 2], .tup [.int 1, .int 0, .int 1, .int 0, .int 1, .int 0], .tup [.int 1, .int 0, .int 1, .int 0, .int 1, .int 1], .tup [.int 1, .int 0, .int 1, .int 0, .int 1, .int 2], .tup [.int 1, .int 0, .int 1, .int 0, .int 2, .int 0], .tup [.int 1, .int 0, .int 1, .int 0, .int 2, .int 1], .tup [.int 1, .int 0, .int 1, .int 0, .int 2, .int 2], .tup [.int 1, .int 0, .int 1, .int 1, .int 0, .int 0], .tup [.int 1, .int 0, .int 1, .int 1, .int 0, .int 1], .tup [.int 1, .int 0, .int 1, .int 1, .int 0, .int 2], .tup [.int 1, .int 0, .int 1, .int 1, .int 1, .int 0], .tup [.int 1, .int 0, .int 1, .int 1, .int 1, .int 1], .tup [.int 1, .int 0, .int 1, .int 1, .int 1, .int 2], .tup [.int 1, .int 0, .int 1, .int 1, .int 2, .int 0], .tup [.int 1, .int 0, .int 1, .int 1, .int 2, .int 1], .tup [.int 1, .int 0, .int 1, .int 1, .int 2, .int 2], .tup [.int 1, .int 0, .int 1, .int 2, .int 0, .int 0], .tup [.int 1, .int 0, .int 1, .int 2, .int 0, .int 1], .tup [.int 1, .int 0, .int 1, .int 2, .int 0, .int 2], .tup [.int 1, .int 0, .int 1, .int 2, .int 1, .int 0], .tup [.int 1, .int 0, .int 1, .int 2, .int 1, .int 1], .tup [.int 1, .int 0, .int 1, .int 2, .int 1, .int 2], .tup [.int 1, .int 0, .int 1, .int 2, .int 2, .int 0], .tup [.int 1, .int 0, .int 1, .int 2, .int 2, .int 1], .tup [.int 1, .int 0, .int 1, .int 2, .int 2, .int 2], .tup [.int 1, .int 0, .int 2, .int 0, .int 0, .int 0], .tup [.int 1, .int 0, .int 2, .int 0, .int 0, .int 1], .tup [.int 1, .int 0, .int 2, .int 0, .int 0, .int 2], .tup [.int 1, .int 0, .int 2, .int 0, .int 1, .int 0], .tup [.int 1, .int 0, .int 2, .int 0, .int 1, .int 1], .tup [.int 1, .int 0, .int 2, .int 0, .int 1, .int 2], .tup [.int 1, .int 0, .int 2, .int 0, .int 2, .int 0], .tup [.int 1, .int 0, .int 2, .int 0, .int 2, .int 1], .tup [.int 1, .int 0, .int 2, .int 0, .int 2, .int 2], .tup [.int 1, .int 0, .int 2, .int 1, .int 0, .int 0], .tup [.int 1, .int 0, .int 2, .int 1, .int 0, .int 1], .tup [.int 1, .int 0, .int 2, .int 1, .int 0, .int 2], .tup [.int 1, .int 0, .int 2, .int 1, .int 1, .int 0], .tup [.int 1, .int 0, .int 2, .int 1, .int 1, .int 1], .tup [.int 1, .int 0, .int 2, .int 1, .int 1, .int 2], .tup [.int 1, .int 0, .int 2, .int 1, .int 2, .int 0], .tup [.int 1, .int 0, .int 2, .int 1, .int 2, .int 1], .tup [.int 1, .int 0, .int 2, .int 1, .int 2, .int 2], .tup [.int 1, .int 0, .int 2, .int 2, .int 0, .int 0], .tup [.int 1, .int 0, .int 2, .int 2, .int 0, .int 1], .tup [.int 1, .int 0, .int 2, .int 2, .int 0, .int 2], .tup [.int 1, .int 0, .int 2, .int 2, .int 1, .int 0], .tup [.int 1, .int 0, .int 2, .int 2, .int 1, .int 1], .tup [.int 1, .int 0, .int 2, .int 2, .int 1, .int 2], .tup [.int 1, .int 0, .int 2, .int 2, .int 2, .int 0], .tup [.int 1, .int 0, .int 2, .int 2, .int 2, .int 1], .tup [.int 1, .int 0, .int 2, .int 2, .int 2, .int 2], .tup [.int 1, .int 1, .int 0, .int 0, .int 0, .int 0], .tup [.int 1, .int 1, .int 0, .int 0, .int 0, .int 1], .tup [.int 1, .int 1, .int 0, .int 0, .int 0, .int 2], .tup [.int 1, .int 1, .int 0, .int 0, .int 1, .int 0], .tup [.int 1, .int 1, .int 0, .int 0, .int 1, .int 1], .tup [.int 1, .int 1, .int 0, .int 0, .int 1, .int 2], .tup [.int 1, .int 1, .int 0, .int 0, .int 2, .int 0], .tup [.int 1, .int 1, .int 0, .int 0, .int 2, .int 1], .tup [.int 1, .int 1, .int 0, .int 0, .int 2, .int 2], .tup [.int 1, .int 1, .int 0, .int 1, .int 0, .int 0], .tup [.int 1, .int 1, .int 0, .int 1, .int 0, .int 1], .tup [.int 1, .int 1, .int 0, .int 1, .int 0, .int 2], .tup [.int 1, .int 1, .int 0, .int 1, .int 1, .int 0], .tup [.int 1, .int 1, .int 0, .int 1, .int 1, .int 1], .tup [.int 1, .int 1, .int 0, .int 1, .int 1, .int 2], .tup [.int 1, .int 1, .int 0, .int 1, .int 2, .int 0], .tup [.int 1, .int 1, .int 0, .int 1, .int 2, .int 1], .tup [.int 1, .int 1, .int 0, .int 1, .int 2, .int 2], .tup [.int 1, .int 1, .int 0, .int 2, .int 0, .int 0], .tup [.int 1, .int 1, .int 0, .int 2, .int 0, .int 1], .tup [.int 1, .int 1, .int 0, .int 2, .int 0, .int 2], .tup [.int 1, .int 1, .int 0, .int 2, .int 1, .int 0], .tup [.int 1, .int 1, .int 0, .int 2, .int 1, .int 1], .tup [.int 1, .int 1, .int 0, .int 2, .int 1, .int 2], .tup [.int 1, .int 1, .int 0, .int 2, .int 2, .int 0], .tup [.int 1, .int 1, .int 0, .int 2, .int 2, .int 1], .tup [.int 1, .int 1, .int 0, .int 2, .int 2, .int 2], .tup [.int 1, .int 1, .int 1, .int 0, .int 0, .int 0], .tup [.int 1, .int 1, .int 1, .int 0, .int 0, .int 1], .tup [.int 1, .int 1, .int 1, .int 0, .int 0, .int 2], .tup [.int 1, .int 1, .int 1, .int 0, .int 1, .int 0], .tup [.int 1, .int 1, .int 1, .int 0, .int 1, .int 1], .tup [.int 1, .int 1, .int 1, .int 0, .int 1, .int 2], .tup [.int 1, .int 1, .int 1, .int 0, .int 2, .int 0], .tup [.int 1, .int 1, .int 1, .int 0, .int 2, .int 1], .tup [.int 1, .int 1, .int 1, .int 0, .int 2, .int 2], .tup [.int 1, .int 1, .int 1, .int 1, .int 0, .int 0], .tup [.int 1, .int 1, .int 1, .int 1, .int 0, .int 1], .tup [.int 1, .int 1, .int 1, .int 1, .int 0, .int 2], .tup [.int 1, .int 1, .int 1, .int 1, .int 1, .int 0], .tup [.int 1, .int 1, .int 1, .int 1, .int 1, .int 1], .tup [.int 1, .int 1, .int 1, .int 1, .int 1, .int 2], .tup [.int 1, .int 1, .int 1, .int 1, .int 2, .int 0], .tup [.int 1, .int 1, .int 1, .int 1, .int 2, .int 1], .tup [.int 1, .int 1, .int 1, .int 1, .int 2, .int 2], .tup [.int 1, .int 1, .int 1, .int 2, .int 0, .int 0], .tup [.int 1, .int 1, .int 1, .int 2, .int 0, .int 1], .tup [.int 1, .int 1, .int 1, .int 2, .int 0, .int 2], .tup [.int 1, .int 1, .int 1, .int 2, .int 1, .int 0], .tup [.int 1, .int 1, .int 1, .int 2, .int 1, .int 1], .tup [.int 1, .int 1, .int 1, .int 2, .int 1, .int 2], .tup [.int 1, .int 1, .int 1, .int 2, .int 2, .int 0], .tup [.int 1, .int 1, .int 1, .int 2, .int 2, .int 1], .tup [.int 1, .int 1, .int 1, .int 2, .int 2, .int 2], .tup [.int 1, .int 1, .int 2, .int 0, .int 0, .int 0], .tup [.int 1, .int 1, .int 2, .int 0, .int 0, .int 1], .tup [.int 1, .int 1, .int 2, .int 0, .int 0, .int 2], .tup [.int 1, .int 1, .int 2, .int 0, .int 1, .int 0], .tup [.int 1, .int 1, .int 2, .int 0, .int 1, .int 1], .tup [.int 1, .int 1, .int 2, .int 0, .int 1, .int 2], .tup [.int 1, .int 1, .int 2, .int 0, .int 2, .int 0], .tup [.int 1, .int 1, .int 2, .int 0, .int 2, .int 1], .tup [.int 1, .int 1, .int 2, .int 0, .int 2, .int 2], .tup [.int 1, .int 1, .int 2, .int 1, .int 0, .int 0], .tup [.int 1, .int 1, .int 2, .int 1, .int 0, .int 1], .tup [.int 1, .int 1, .int 2, .int 1, .int 0, .int 2], .tup [.int 1, .int 1, .int 2, .int 1, .int 1, .int 0], .tup [.int 1, .int 1, .int 2, .int 1, .int 1, .int 1], .tup [.int 1, .int 1, .int 2, .int 1, .int 1, .int 2], .tup [.int 1, .int 1, .int 2, .int 1, .int 2, .int 0], .tup [.int 1, .int 1, .int 2, .int 1, .int 2, .int 1], .tup [.int 1, .int 1, .int 2, .int 1, .int 2, .int 2], .tup [.int 1, .int 1, .int 2, .int 2, .int 0, .int 0], .tup [.int 1, .int 1, .int 2, .int 2, .int 0, .int 1], .tup [.int 1, .int 1, .int 2, .int 2, .int 0, .int 2], .tup [.int 1, .int 1, .int 2, .int 2, .int 1, .int 0], .tup [.int 1, .int 1, .int 2, .int 2, .int 1, .int 1], .tup [.int 1, .int 1, .int 2, .int 2, .int 1, .int 2], .tup [.int 1, .int 1, .int 2, .int 2, .int 2, .int 0], .tup [.int 1, .int 1, .int 2, .int 2, .int 2, .int 1], .tup [.int 1, .int 1, .int 2, .int 2, .int 2, .int 2], .tup [.int 1, .int 2, .int 0, .int 0, .int 0, .int 0], .tup [.int 1, .int 2, .int 0, .int 0, .int 0, .int 1], .tup [.int 1, .int 2, .int 0, .int 0, .int 0, .int 2], .tup [.int 1, .int 2, .int 0, .int 0, .int 1, .int 0], .tup [.int 1, .int 2, .int 0, .int 0, .int 1, .int 1], .tup [.int 1, .int 2, .int 0, .int 0, .int 1, .int 2], .tup [.int 1, .int 2, .int 0, .int 0, .int 2, .int 0], .tup [.int 1, .int 2, .int 0, .int 0, .int 2, .int 1], .tup [.int 1, .int 2, .int 0, .int 0, .int 2, .int 2], .tup [.int 1, .int 2, .int 0, .int 1, .int 0, .int 0], .tup [.int 1, .int 2, .int 0, .int 1, .int 0, .int 1], .tup [.int 1, .int 2, .int 0, .int 1, .int 0, .int 2], .tup [.int 1, .int 2, .int 0, .int 1, .int 1, .int 0], .tup [.int 1, .int 2, .int 0, .int 1, .int 1, .int 1], .tup [.int 1, .int 2, .int 0, .int 1, .int 1, .int 2], .tup [.int 1, .int 2, .int 0, .int 1, .int 2, .int 0], .tup [.int 1, .int 2, .int 0, .int 1, .int 2, .int 1], .tup [.int 1, .int 2, .int 0, .int 1, .int 2, .int 2], .tup [.int 1, .int 2, .int 0, .int 2, .int 0, .int 0], .tup [.int 1, .int 2, .int 0, .int 2, .int 0, .int 1], .tup [.int 1, .int 2, .int 0, .int 2, .int 0, .int 2], .tup [.int 1, .int 2, .int 0, .int 2, .int 1, .int 0], .tup [.int 1, .int 2, .int 0, .int 2, .int 1, .int 1], .tup [.int 1, .int 2, .int 0, .int 2, .int 1, .int 2], .tup [.int 1, .int 2, .int 0, .int 2, .int 2, .int 0], .tup [.int 1, .int 2, .int 0, .int 2, .int 2, .int 1], .tup [.int 1, .int 2, .int 0, .int 2, .int 2, .int 2], .tup [.int 1, .int 2, .int 1, .int 0, .int 0, .int 0], .tup [.int 1, .int 2, .int 1, .int 0, .int 0, .int 1], .tup [.int 1, .int 2, .int 1, .int 0, .int 0, .int 2], .tup [.int 1, .int 2, .int 1, .int 0, .int 1, .int 0], .tup [.int 1, .int 2, .int 1, .int 0, .int 1, .int 1], .tup [.int 1, .int 2, .int 1, .int 0, .int 1, .int 2], .tup [.int 1, .int 2, .int 1, .int 0, .int 2, .int 0], .tup [.int 1, .int 2, .int 1, .int 0, .int 2, .int 1], .tup [.int 1, .int 2, .int 1, .int 0, .int 2, .int 2], .tup [.int 1, .int 2, .int 1, .int 1, .int 0, .int 0], .tup [.int 1, .int 2, .int 1, .int 1, .int 0, .int 1], .tup [.int 1, .int 2, .int 1, .int 1, .int 0, .int 2], .tup [.int 1, .int 2, .int 1, .int 1, .int 1, .int 0], .tup [.int 1, .int 2, .int 1, .int 1, .int 1, .int 1], .tup [.int 1, .int 2, .int 1, .int 1, .int 1, .int 2], .tup [.int 1, .int 2, .int 1, .int 1, .int 2, .int 0], .tup [.int 1, .int 2, .int 1, .int 1, .int 2, .int 1], .tup [.int 1, .int 2, .int 1, .int 1, .int 2, .int 2], .tup [.int 1, .int 2, .int 1, .int 2, .int 0, .int 0], .tup [.int 1, .int 2, .int 1, .int 2, .int 0, .int 1], .tup [.int 1, .int 2, .int 1, .int 2, .int 0, .int 2], .tup [.int 1, .int 2, .int 1, .int 2, .int 1, .int 0], .tup [.int 1, .int 2, .int 1, .int 2, .int 1, .int 1], .tup [.int 1, .int 2, .int 1, .int 2, .int 1, .int 2], .tup [.int 1, .int 2, .int 1, .int 2, .int 2, .int 0], .tup [.int 1, .int 2, .int 1, .int 2, .int 2, .int 1], .tup [.int 1, .int 2, .int 1, .int 2, .int 2, .int 2], .tup [.int 1, .int 2, .int 2, .int 0, .int 0, .int 0], .tup [.int 1, .int 2, .int 2, .int 0, .int 0, .int 1], .tup [.int 1, .int 2, .int 2, .int 0, .int 0, .int 2], .tup [.int 1, .int 2, .int 2, .int 0, .int 1, .int 0], .tup [.int 1, .int 2, .int 2, .int 0, .int 1, .int 1], .tup [.int 1, .int 2, .int 2, .int 0, .int 1, .int 2], .tup [.int 1, .int 2, .int 2, .int 0, .int 2, .int 0], .tup [.int 1, .int 2, .int 2, .int 0, .int 2, .int 1], .tup [.int 1, .int 2, .int 2, .int 0, .int 2, .int 2], .tup [.int 1, .int 2, .int 2, .int 1, .int 0, .int 0], .tup [.int 1, .int 2, .int 2, .int 1, .int 0, .int 1], .tup [.int 1, .int 2, .int 2, .int 1, .int 0, .int 2], .tup [.int 1, .int 2, .int 2, .int 1, .int 1, .int 0], .tup [.int 1, .int 2, .int 2, .int 1, .int 1, .int 1], .tup [.int 1, .int 2, .int 2, .int 1, .int 1, .int 2], .tup [.int 1, .int 2, .int 2, .int 1, .int 2, .int 0], .tup [.int 1, .int 2, .int 2, .int 1, .int 2, .int 1], .tup [.int 1, .int 2, .int 2, .int 1, .int 2, .int 2], .tup [.int 1, .int 2, .int 2, .int 2, .int 0, .int 0], .tup [.int 1, .int 2, .int 2, .int 2, .int 0, .int 1], .tup [.int 1, .int 2, .int 2, .int 2, .int 0, .int 2], .tup [.int 1, .int 2, .int 2, .int 2, .int 1, .int 0], .tup [.int 1, .int 2, .int 2, .int 2, .int 1, .int 1], .tup [.int 1, .int 2, .int 2, .int 2, .int 1, .int 2], .tup [.int 1, .int 2, .int 2, .int 2, .int 2, .int 0], .tup [.int 1, .int 2, .int 2, .int 2, .int 2, .int 1], .tup [.int 1, .int 2, .int 2, .int 2, .int 2, .int 2], .tup [.int 2, .int 0, .int 0, .int 0, .int 0, .int 0], .tup [.int 2, .int 0, .int 0, .int 0, .int 0, .int 1], .tup [.int 2, .int 0, .int 0, .int 0, .int 0, .int 2], .tup [.int 2, .int 0, .int 0, .int 0, .int 1, .int 0], .tup [.int 2, .int 0, .int 0, .int 0, .int 1, .int 1], .tup [.int 2, .int 0, .int 0, .int 0, .int 1, .int 2], .tup [.int 2, .int 0, .int 0, .int 0, .int 2, .int 0], .tup [.int 2, .int 0, .int 0, .int 0, .int 2, .int 1], .tup [.int 2, .int 0, .int 0, .int 0, .int 2, .int 2], .tup [.int 2, .int 0, .int 0, .int 1, .int 0, .int 0], .tup [.int 2, .int 0, .int 0, .int 1, .int 0, .int 1], .tup [.int 2, .int 0, .int 0, .int 1, .int 0, .int 2], .tup [.int 2, .int 0, .int 0, .int 1, .int 1, .int 0], .tup [.int 2, .int 0, .int 0, .int 1, .int 1, .int 1], .tup [.int 2, .int 0, .int 0, .int 1, .int 1, .int 2], .tup [.int 2, .int 0, .int 0, .int 1, .int 2, .int 0], .tup [.int 2, .int 0, .int 0, .int 1, .int 2, .int 1], .tup [.int 2, .int 0, .int 0, .int 1, .int 2, .int 2], .tup [.int 2, .int 0, .int 0, .int 2, .int 0, .int 0], .tup [.int 2, .int 0, .int 0, .int 2, .int 0, .int 1], .tup [.int 2, .int 0, .int 0, .int 2, .int 0, .int 2], .tup [.int 2, .int 0, .int 0, .int 2, .int 1, .int 0], .tup [.int 2, .int 0, .int 0, .int 2, .int 1, .int 1], .tup [.int 2, .int 0, .int 0, .int 2, .int 1, .int 2], .tup [.int 2, .int 0, .int 0, .int 2, .int 2, .int 0], .tup [.int 2, .int 0, .int 0, .int 2, .int 2, .int 1], .tup [.int 2, .int 0, .int 0, .int 2, .int 2, .int 2], .tup [.int 2, .int 0, .int 1, .int 0, .int 0, .int 0], .tup [.int 2, .int 0, .int 1, .int 0, .int 0, .int 1], .tup [.int 2, .int 0, .int 1, .int 0, .int 0, .int 2], .tup [.int 2, .int 0, .int 1, .int 0, .int 1, .int 0], .tup [.int 2, .int 0, .int 1, .int 0, .int 1, .int 1], .tup [.int 2, .int 0, .int 1, .int 0, .int 1, .int 2], .tup [.int 2, .int 0, .int 1, .int 0, .int 2, .int 0], .tup [.int 2, .int 0, .int 1, .int 0, .int 2, .int 1], .tup [.int 2, .int 0, .int 1, .int 0, .int 2, .int 2], .tup [.int 2, .int 0, .int 1, .int 1, .int 0, .int 0], .tup [.int 2, .int 0, .int 1, .int 1, .int 0, .int 1], .tup [.int 2, .int 0, .int 1, .int 1, .int 0, .int 2], .tup [.int 2, .int 0, .int 1, .int 1, .int 1, .int 0], .tup [.int 2, .int 0, .int 1, .int 1, .int 1, .int 1], .tup [.int 2, .int 0, .int 1, .int 1, .int 1, .int 2], .tup [.int 2, .int 0, .int 1, .int 1, .int 2, .int 0], .tup [.int 2, .int 0, .int 1, .int 1, .int 2, .int 1], .tup [.int 2, .int 0, .int 1, .int 1, .int 2, .int 2], .tup [.int 2, .int 0, .int 1, .int 2, .int 0, .int 0], .tup [.int 2, .int 0, .int 1, .int 2, .int 0, .int 1], .tup [.int 2, .int 0, .int 1, .int 2, .int 0, .int 2], .tup [.int 2, .int 0, .int 1, .int 2, .int 1, .int 0], .tup [.int 2, .int 0, .int 1, .int 2, .int 1, .int 1], .tup [.int 2, .int 0, .int 1, .int 2, .int 1, .int 2], .tup [.int 2, .int 0, .int 1, .int 2, .int 2, .int 0], .tup [.int 2, .int 0, .int 1, .int 2, .int 2, .int 1], .tup [.int 2, .int 0, .int 1, .int 2, .int 2, .int 2], .tup [.int 2, .int 0, .int 2, .int 0, .int 0, .int 0], .tup [.int 2, .int 0, .int 2, .int 0, .int 0, .int 1], .tup [.int 2, .int 0, .int 2, .int 0, .int 0, .int 2], .tup [.int 2, .int 0, .int 2, .int 0, .int 1, .int 0], .tup [.int 2, .int 0, .int 2, .int 0, .int 1, .int 1], .tup [.int 2, .int 0, .int 2, .int 0, .int 1, .int 2], .tup [.int 2, .int 0, .int 2, .int 0, .int 2, .int 0], .tup [.int 2, .int 0, .int 2, .int 0, .int 2, .int 1], .tup [.int 2, .int 0, .int 2, .int 0, .int 2, .int 2], .tup [.int 2, .int 0, .int 2, .int 1, .int 0, .int 0], .tup [.int 2, .int 0, .int 2, .int 1, .int 0, .int 1], .tup [.int 2, .int 0, .int 2, .int 1, .int 0, .int 2], .tup [.int 2, .int 0, .int 2, .int 1, .int 1, .int 0], .tup [.int 2, .int 0, .int 2, .int 1, .int 1, .int 1], .tup [.int 2, .int 0, .int 2, .int 1, .int 1, .int 2], .tup [.int 2, .int 0, .int 2, .int 1, .int 2, .int 0], .tup [.int 2, .int 0, .int 2, .int 1, .int 2, .int 1], .tup [.int 2, .int 0, .int 2, .int 1, .int 2, .int 2], .tup [.int 2, .int 0, .int 2, .int 2, .int 0, .int 0], .tup [.int 2, .int 0, .int 2, .int 2, .int 0, .int 1], .tup [.int 2, .int 0, .int 2, .int 2, .int 0, .int 2], .tup [.int 2, .int 0, .int 2, .int 2, .int 1, .int 0], .tup [.int 2, .int 0, .int 2, .int 2, .int 1, .int 1], .tup [.int 2, .int 0, .int 2, .int 2, .int 1, .int 2], .tup [.int 2, .int 0, .int 2, .int 2, .int 2, .int 0], .tup [.int 2, .int 0, .int 2, .int 2, .int 2, .int 1], .tup [.int 2, .int 0, .int 2, .int 2, .int 2, .int 2], .tup [.int 2, .int 1, .int 0, .int 0, .int 0, .int 0], .tup [.int 2, .int 1, .int 0, .int 0, .int 0, .int 1], .tup [.int 2, .int 1, .int 0, .int 0, .int 0, .int 2], .tup [.int 2, .int 1, .int 0, .int 0, .int 1, .int 0], .tup [.int 2, .int 1, .int 0, .int 0, .int 1, .int 1], .tup [.int 2, .int 1, .int 0, .int 0, .int 1, .int 2], .tup [.int 2, .int 1, .int 0, .int 0, .int 2, .int 0], .tup [.int 2, .int 1, .int 0, .int 0, .int 2, .int 1], .tup [.int 2, .int 1, .int 0, .int 0, .int 2, .int 2], .tup [.int 2, .int 1, .int 0, .int 1, .int 0, .int 0], .tup [.int 2, .int 1, .int 0, .int 1, .int 0, .int 1], .tup [.int 2, .int 1, .int 0, .int 1, .int 0, .int 2], .tup [.int 2, .int 1, .int 0, .int 1, .int 1, .int 0], .tup [.int 2, .int 1, .int 0, .int 1, .int 1, .int 1], .tup [.int 2, .int 1, .int 0, .int 1, .int 1, .int 2], .tup [.int 2, .int 1, .int 0, .int 1, .int 2, .int 0], .tup [.int 2, .int 1, .int 0, .int 1, .int 2, .int 1], .tup [.int 2, .int 1, .int 0, .int 1, .int 2, .int 2], .tup [.int 2, .int 1, .int 0, .int 2, .int 0, .int 0], .tup [.int 2, .int 1, .int 0, .int 2, .int 0, .int 1], .tup [.int 2, .int 1, .int 0, .int 2, .int 0, .int 2], .tup [.int 2, .int 1, .int 0, .int 2, .int 1, .int 0], .tup [.int 2, .int 1, .int 0, .int 2, .int 1, .int 1], .tup [.int 2, .int 1, .int 0, .int 2, .int 1, .int 2], .tup [.int 2, .int 1, .int 0, .int 2, .int 2, .int 0], .tup [.int 2, .int 1, .int 0, .int 2, .int 2, .int 1], .tup [.int 2, .int 1, .int 0, .int 2, .int 2, .int 2], .tup [.int 2, .int 1, .int 1, .int 0, .int 0, .int 0], .tup [.int 2, .int 1, .int 1, .int 0, .int 0, .int 1], .tup [.int 2, .int 1, .int 1, .int 0, .int 0, .int 2], .tup [.int 2, .int 1, .int 1, .int 0, .int 1, .int 0], .tup [.int 2, .int 1, .int 1, .int 0, .int 1, .int 1], .tup [.int 2, .int 1, .int 1, .int 0, .int 1, .int 2], .tup [.int 2, .int 1, .int 1, .int 0, .int 2, .int 0], .tup [.int 2, .int 1, .int 1, .int 0, .int 2, .int 1], .tup [.int 2, .int 1, .int 1, .int 0, .int 2, .int 2], .tup [.int 2, .int 1, .int 1, .int 1, .int 0, .int 0], .tup [.int 2, .int 1, .int 1, .int 1, .int 0, .int 1], .tup [.int 2, .int 1, .int 1, .int 1, .int 0, .int 2], .tup [.int 2, .int 1, .int 1, .int 1, .int 1, .int 0], .tup [.int 2, .int 1, .int 1, .int 1, .int 1, .int 1], .tup [.int 2, .int 1, .int 1, .int 1, .int 1, .int 2], .tup [.int 2, .int 1, .int 1, .int 1, .int 2, .int 0], .tup [.int 2, .int 1, .int 1, .int 1, .int 2, .int 1], .tup [.int 2, .int 1, .int 1, .int 1, .int 2, .int 2], .tup [.int 2, .int 1, .int 1, .int 2, .int 0, .int 0], .tup [.int 2, .int 1, .int 1, .int 2, .int 0, .int 1], .tup [.int 2, .int 1, .int 1, .int 2, .int 0, .int 2], .tup [.int 2, .int 1, .int 1, .int 2, .int 1, .int 0], .tup [.int 2, .int 1, .int 1, .int 2, .int 1, .int 1], .tup [.int 2, .int 1, .int 1, .int 2, .int 1, .int 2], .tup [.int 2, .int 1, .int 1, .int 2, .int 2, .int 0], .tup [.int 2, .int 1, .int 1, .int 2, .int 2, .int 1], .tup [.int 2, .int 1, .int 1, .int 2, .int 2, .int 2], .tup [.int 2, .int 1, .int 2, .int 0, .int 0, .int 0], .tup [.int 2, .int 1, .int 2, .int 0, .int 0, .int 1], .tup [.int 2, .int 1, .int 2, .int 0, .int 0, .int 2], .tup [.int 2, .int 1, .int 2, .int 0, .int 1, .int 0], .tup [.int 2, .int 1, .int 2, .int 0, .int 1, .int 1], .tup [.int 2, .int 1, .int 2, .int 0, .int 1, .int 2], .tup [.int 2, .int 1, .int 2, .int 0, .int 2, .int 0], .tup [.int 2, .int 1, .int 2, .int 0, .int 2, .int 1], .tup [.int 2, .int 1, .int 2, .int 0, .int 2, .int 2], .tup [.int 2, .int 1, .int 2, .int 1, .int 0, .int 0], .tup [.int 2, .int 1, .int 2, .int 1, .int 0, .int 1], .tup [.int 2, .int 1, .int 2, .int 1, .int 0, .int 2], .tup [.int 2, .int 1, .int 2, .int 1, .int 1, .int 0], .tup [.int 2, .int 1, .int 2, .int 1, .int 1, .int 1], .tup [.int 2, .int 1, .int 2, .int 1, .int 1, .int 2], .tup [.int 2, .int 1, .int 2, .int 1, .int 2, .int 0], .tup [.int 2, .int 1, .int 2, .int 1, .int 2, .int 1], .tup [.int 2, .int 1, .int 2, .int 1, .int 2, .int 2], .tup [.int 2, .int 1, .int 2, .int 2, .int 0, .int 0], .tup [.int 2, .int 1, .int 2, .int 2, .int 0, .int 1], .tup [.int 2, .int 1, .int 2, .int 2, .int 0, .int 2], .tup [.int 2, .int 1, .int 2, .int 2, .int 1, .int 0], .tup [.int 2, .int 1, .int 2, .int 2, .int 1, .int 1], .tup [.int 2, .int 1, .int 2, .int 2, .int 1, .int 2], .tup [.int 2, .int 1, .int 2, .int 2, .int 2, .int 0], .tup [.int 2, .int 1, .int 2, .int 2, .int 2, .int 1], .tup [.int 2, .int 1, .int 2, .int 2, .int 2, .int 2], .tup [.int 2, .int 2, .int 0, .int 0, .int 0, .int 0], .tup [.int 2, .int 2, .int 0, .int 0, .int 0, .int 1], .tup [.int 2, .int 2, .int 0, .int 0, .int 0, .int 2], .tup [.int 2, .int 2, .int 0, .int 0, .int 1, .int 0], .tup [.int 2, .int 2, .int 0, .int 0, .int 1, .int 1], .tup [.int 2, .int 2, .int 0, .int 0, .int 1, .int 2], .tup [.int 2, .int 2, .int 0, .int 0, .int 2, .int 0], .tup [.int 2, .int 2, .int 0, .int 0, .int 2, .int 1], .tup [.int 2, .int 2, .int 0, .int 0, .int 2, .int 2], .tup [.int 2, .int 2, .int 0, .int 1, .int 0, .int 0], .tup [.int 2, .int 2, .int 0, .int 1, .int 0, .int 1], .tup [.int 2, .int 2, .int 0, .int 1, .int 0, .int 2], .tup [.int 2, .int 2, .int 0, .int 1, .int 1, .int 0], .tup [.int 2, .int 2, .int 0, .int 1, .int 1, .int 1], .tup [.int 2, .int 2, .int 0, .int 1, .int 1, .int 2], .tup [.int 2, .int 2, .int 0, .int 1, .int 2, .int 0], .tup [.int 2, .int 2, .int 0, .int 1, .int 2, .int 1], .tup [.int 2, .int 2, .int 0, .int 1, .int 2, .int 2], .tup [.int 2, .int 2, .int 0, .int 2, .int 0, .int 0], .tup [.int 2, .int 2, .int 0, .int 2, .int 0, .int 1], .tup [.int 2, .int 2, .int 0, .int 2, .int 0, .int 2], .tup [.int 2, .int 2, .int 0, .int 2, .int 1, .int 0], .tup [.int 2, .int 2, .int 0, .int 2, .int 1, .int 1], .tup [.int 2, .int 2, .int 0, .int 2, .int 1, .int 2], .tup [.int 2, .int 2, .int 0, .int 2, .int 2, .int 0], .tup [.int 2, .int 2, .int 0, .int 2, .int 2, .int 1], .tup [.int 2, .int 2, .int 0, .int 2, .int 2, .int 2], .tup [.int 2, .int 2, .int 1, .int 0, .int 0, .int 0], .tup [.int 2, .int 2, .int 1, .int 0, .int 0, .int 1], .tup [.int 2, .int 2, .int 1, .int 0, .int 0, .int 2], .tup [.int 2, .int 2, .int 1, .int 0, .int 1, .int 0], .tup [.int 2, .int 2, .int 1, .int 0, .int 1, .int 1], .tup [.int 2, .int 2, .int 1, .int 0, .int 1, .int 2], .tup [.int 2, .int 2, .int 1, .int 0, .int 2, .int 0], .tup [.int 2, .int 2, .int 1, .int 0, .int 2, .int 1], .tup [.int 2, .int 2, .int 1, .int 0, .int 2, .int 2], .tup [.int 2, .int 2, .int 1, .int 1, .int 0, .int 0], .tup [.int 2, .int 2, .int 1, .int 1, .int 0, .int 1], .tup [.int 2, .int 2, .int 1, .int 1, .int 0, .int 2], .tup [.int 2, .int 2, .int 1, .int 1, .int 1, .int 0], .tup [.int 2, .int 2, .int 1, .int 1, .int 1, .int 1], .tup [.int 2, .int 2, .int 1, .int 1, .int 1, .int 2], .tup [.int 2, .int 2, .int 1, .int 1, .int 2, .int 0], .tup [.int 2, .int 2, .int 1, .int 1, .int 2, .int 1], .tup [.int 2, .int 2, .int 1, .int 1, .int 2, .int 2], .tup [.int 2, .int 2, .int 1, .int 2, .int 0, .int 0], .tup [.int 2, .int 2, .int 1, .int 2, .int 0, .int 1], .tup [.int 2, .int 2, .int 1, .int 2, .int 0, .int 2], .tup [.int 2, .int 2, .int 1, .int 2, .int 1, .int 0], .tup [.int 2, .int 2, .int 1, .int 2, .int 1, .int 1], .tup [.int 2, .int 2, .int 1, .int 2, .int 1, .int 2], .tup [.int 2, .int 2, .int 1, .int 2, .int 2, .int 0], .tup [.int 2, .int 2, .int 1, .int 2, .int 2, .int 1], .tup [.int 2, .int 2, .int 1, .int 2, .int 2, .int 2], .tup [.int 2, .int 2, .int 2, .int 0, .int 0, .int 0], .tup [.int 2, .int 2, .int 2, .int 0, .int 0, .int 1], .tup [.int 2, .int 2, .int 2, .int 0, .int 0, .int 2], .tup [.int 2, .int 2, .int 2, .int 0, .int 1, .int 0], .tup [.int 2, .int 2, .int 2, .int 0, .int 1, .int 1], .tup [.int 2, .int 2, .int 2, .int 0, .int 1, .int 2], .tup [.int 2, .int 2, .int 2, .int 0, .int 2, .int 0], .tup [.int 2, .int 2, .int 2, .int 0, .int 2, .int 1], .tup [.int 2, .int 2, .int 2, .int 0, .int 2, .int 2], .tup [.int 2, .int 2, .int 2, .int 1, .int 0, .int 0], .tup [.int 2, .int 2, .int 2, .int 1, .int 0, .int 1], .tup [.int 2, .int 2, .int 2, .int 1, .int 0, .int 2], .tup [.int 2, .int 2, .int 2, .int 1, .int 1, .int 0], .tup [.int 2, .int 2, .int 2, .int 1, .int 1, .int 1], .tup [.int 2, .int 2, .int 2, .int 1, .int 1, .int 2], .tup [.int 2, .int 2, .int 2, .int 1, .int 2, .int 0], .tup [.int 2, .int 2, .int 2, .int 1, .int 2, .int 1], .tup [.int 2, .int 2, .int 2, .int 1, .int 2, .int 2], .tup [.int 2, .int 2, .int 2, .int 2, .int 0, .int 0], .tup [.int 2, .int 2, .int 2, .int 2, .int 0, .int 1], .tup [.int 2, .int 2, .int 2, .int 2, .int 0, .int 2], .tup [.int 2, .int 2, .int 2, .int 2, .int 1, .int 0], .tup [.int 2, .int 2, .int 2, .int 2, .int 1, .int 1], .tup [.int 2, .int 2, .int 2, .int 2, .int 1, .int 2], .tup [.int 2, .int 2, .int 2, .int 2, .int 2, .int 0], .tup [.int 2, .int 2, .int 2, .int 2, .int 2, .int 1], .tup [.int 2, .int 2, .int 2, .int 2, .int 2, .int 2]]), (0, .dice)]⟩)
theorem hS_9_17 : (Nat.ble 1 S_9_17.2.nx && K_9 S_9_17.1 S_9_17.2) = true := by decide +kernel
def S_9 : List (SD × Hd) := [S_9_0, S_9_1, S_9_2, S_9_3, S_9_4, S_9_5, S_9_6, S_9_7, S_9_8, S_9_9, S_9_10, S_9_11, S_9_12, S_9_13, S_9_14, S_9_15, S_9_16, S_9_17]
theorem hS_9 : (S_9.all fun st => Nat.ble 1 st.2.nx && K_9 st.1 st.2) = true := List.all_eq_true.mpr (List.forall_mem_cons.mpr ⟨hS_9_0, List.forall_mem_cons.mpr ⟨hS_9_1, List.forall_mem_cons.mpr ⟨hS_9_2, List.forall_mem_cons.mpr ⟨hS_9_3, List.forall_mem_cons.mpr ⟨hS_9_4, List.forall_mem_cons.mpr ⟨hS_9_5, List.forall_mem_cons.mpr ⟨hS_9_6, List.forall_mem_cons.mpr ⟨hS_9_7, List.forall_mem_cons.mpr ⟨hS_9_8, List.forall_mem_cons.mpr ⟨hS_9_9, List.forall_mem_cons.mpr ⟨hS_9_10, List.forall_mem_cons.mpr ⟨hS_9_11, List.forall_mem_cons.mpr ⟨hS_9_12, List.forall_mem_cons.mpr ⟨hS_9_13, List.forall_mem_cons.mpr ⟨hS_9_14, List.forall_mem_cons.mpr ⟨hS_9_15, List.forall_mem_cons.mpr ⟨hS_9_16, List.forall_mem_cons.mpr ⟨hS_9_17, fun _ h => nomatch h⟩⟩⟩⟩⟩⟩⟩⟩⟩⟩⟩⟩⟩⟩⟩⟩⟩⟩)
def Kc_9 : CK := fun σ η => S_9.any fun st => leS st σ η
def K_8 : CK := fun σ η => (sIf (cTst (cOp fNe (cFn (f1 gSum) (cCons (cLc (ciR2 (cCons (cC (.int 1)) (cCons (cOp fAdd (cVar 2) (cC (.int 1))) cNil))) (gNm 5) (cTst (cOp fEq (cOp fMod (cVar 2) (cVar 5)) (cC (.int 0)))) (cCall F_plain_rings (cCons (cVar 5) (cCons (cVar 3) cNil))) [5]) cNil)) (cFn fLen (cCons (cVar 7) cNil)))) (sRet (cC (.bl false))) sNil) σ η { kT 17 with nx := Kc_9 }
def K_7 : CK := fun σ η => (sIf (cTst (cOp fNe (cFn (f1 gList) (cCons (cCall F_least_rings (cCons (cVar 2) (cCons (cVar 3) cNil))) cNil)) (cFn (f1 gSrt) (cCons (cVar 9) cNil)))) (sRet (cC (.bl false))) sNil) σ η { kT 17 with nx := K_8 }
def K_6 : CK := fun σ η => (sIf (cTst (cOp fNe (cCall F_plain_rings (cCons (cVar 2) (cCons (cVar 3) cNil))) (cFn fLen (cCons (cVar 9) cNil)))) (sRet (cC (.bl false))) sNil) σ η { kT 17 with nx := K_7 }
def K_5 : CK := fun σ η => (sIf (ctOr (cTst (cOp fNe (cCall F_necklaces (cCons (cVar 2) (cCons (cVar 3) cNil))) (cFn fLen (cCons (cVar 7) cNil)))) (cTst (cOp fNe (cCall F_bracelets (cCons (cVar 2) (cCons (cVar 3) cNil))) (cFn fLen (cCons (cVar 8) cNil))))) (sRet (cC (.bl false))) sNil) σ η { kT 17 with nx := K_6 }
def G_4 : CG := (gNm 6)
def B_4 : CS := (sSeq (sAsg (cLc (ciR1 (cCons (cVar 2) cNil)) (gNm 5) ctYes (cOp fAdd (cSl (cVar 6) (coS (cVar 5)) coN) (cSl (cVar 6) coN (coS (cVar 5)))) [5]) (gNm 10)) (sSeq (sAsg (cOp fAdd (cVar 7) (cOp fMul (cLst (cCons (cVar 6) cNil)) (cFn (f1 gInt) (cCons (cOp fEq (cVar 6) (cFn (f1 gMin) (cCons (cVar 10) cNil))) cNil)))) (gNm 7)) (sSeq (sAsg (cOp fAdd (cVar 8) (cOp fMul (cLst (cCons (cVar 6) cNil)) (cFn (f1 gInt) (cCons (cOp fEq (cVar 6) (cFn (f1 gMin) (cCons (cOp fAdd (cVar 10) (cLc (ciSeq (cVar 10)) (gNm 16) ctYes (cTupRev (cVar 16)) [16])) cNil))) cNil)))) (gNm 8)) (sAsg (cOp fAdd (cVar 9) (cOp fMul (cLst (cCons (cVar 6) cNil)) (cFn (f1 gInt) (cCons (cAnd (cOp fEq (cVar 6) (cFn (f1 gMin) (cCons (cVar 10) cNil))) (cOp fEq (cMt fCount (cVar 10) (cCons (cVar 6) cNil)) (cC (.int 1)))) cNil)))) (gNm 9)))))
def KS_4 : KS := { kT 17 with nx := K_5 }
def P_4_0 : Pc := ⟨745, some (741, ROWS6), ROWS6.drop 244, ([none, some (.ref 0), some (.int 6), some (.int 3), some (.ref 741), none, none, some (.ref 3664), some (.ref 3669), some (.ref 3672), none, none, none, none, none, none, none], ⟨3673, [(3672, .lst [.tup [.int 0, .int 0, .int 0, .int 0, .int 0, .int 1], .tup [.int 0, .int 0, .int 0, .int 0, .int 0, .int 2], .tup [.int 0, .int 0, .int 0, .int 0, .int 1, .int 1], .tup [.int 0, .int 0, .int 0, .int 0, .int 1, .int 2], .tup [.int 0, .int 0, .int 0, .int 0, .int 2, .int 1], .tup [.int 0, .int 0, .int 0, .int 0, .int 2, .int 2], .tup [.int 0, .int 0, .int 0, .int 1, .int 0, .int 1], .tup [.int 0, .int 0, .int 0, .int 1, .int 0, .int 2], .tup [.int 0, .int 0, .int 0, .int 1, .int 1, .int 1], .tup [.int 0, .int 0, .int 0, .int 1, .int 1, .int 2], .tup [.int 0, .int 0, .int 0, .int 1, .int 2, .int 1], .tup [.int 0, .int 0, .int 0, .int 1, .int 2, .int 2], .tup [.int 0, .int 0, .int 0, .int 2, .int 0, .int 1], .tup [.int 0, .int 0, .int 0, .int 2, .int 0, .int 2], .tup [.int 0, .int 0, .int 0, .int 2, .int 1, .int 1], .tup [.int 0, .int 0, .int 0, .int 2, .int 1, .int 2], .tup [.int 0, .int 0, .int 0, .int 2, .int 2, .int 1], .tup [.int 0, .int 0, .int 0, .int 2, .int 2, .int 2], .tup [.int 0, .int 0, .int 1, .int 0, .int 0, .int 2], .tup [.int 0, .int 0, .int 1, .int 0, .int 1, .int 1], .tup [.int 0, .int 0, .int 1, .int 0, .int 1, .int 2], .tup [.int 0, .int 0, .int 1, .int 0, .int 2, .int 1], .tup [.int 0, .int 0, .int 1, .int 0, .int 2, .int 2], .tup [.int 0, .int 0, .int 1, .int 1, .int 0, .int 1], .tup [.int 0, .int 0, .int 1, .int 1, .int 0, .int 2], .tup [.int 0, .int 0, .int 1, .int 1, .int 1, .int 1], .tup [.int 0, .int 0, .int 1, .int 1, .int 1, .int 2], .tup [.int 0, .int 0, .int 1, .int 1, .int 2, .int 1], .tup [.int 0, .int 0, .int 1, .int 1, .int 2, .int 2], .tup [.int 0, .int 0, .int 1, .int 2, .int 0, .int 1], .tup [.int 0, .int 0, .int 1, .int 2, .int 0, .int 2], .tup [.int 0, .int 0, .int 1, .int 2, .int 1, .int 1], .tup [.int 0, .int 0, .int 1, .int 2, .int 1, .int 2], .tup [.int 0, .int 0, .int 1, .int 2, .int 2, .int 1], .tup [.int 0, .int 0, .int 1, .int 2, .int 2, .int 2], .tup [.int 0, .int 0, .int 2, .int 0, .int 1, .int 1], .tup [.int 0, .int 0, .int 2, .int 0, .int 1, .int 2], .tup [.int 0, .int 0, .int 2, .int 0, .int 2, .int 1], .tup [.int 0, .int 0, .int 2, .int 0, .int 2, .int 2], .tup [.int 0, .int 0, .int 2, .int 1, .int 0, .int 1], .tup [.int 0, .int 0, .int 2, .int 1, .int 0, .int 2], .tup [.int 0, .int 0, .int 2, .int 1, .int 1, .int 1], .tup [.int 0, .int 0, .int 2, .int 1, .int 1, .int 2], .tup [.int 0, .int 0, .int 2, .int 1, .int 2, .int 1], .tup [.int 0, .int 0, .int 2, .int 1, .int 2, .int 2], .tup [.int 0, .int 0, .int 2, .int 2, .int 0, .int 1], .tup [.int 0, .int 0, .int 2, .int 2, .int 0, .int 2], .tup [.int 0, .int 0, .int 2, .int 2, .int 1, .int 1], .tup [.int 0, .int 0, .int 2, .int 2, .int 1, .int 2], .tup [.int 0, .int 0, .int 2, .int 2, .int 2, .int 1], .tup [.int 0, .int 0, .int 2, .int 2, .int 2, .int 2], .tup [.int 0, .int 1, .int 0, .int 1, .int 0, .int 2], .tup [.int 0, .int 1, .int 0, .int 1, .int 1, .int 1], .tup [.int 0, .int 1, .int 0, .int 1, .int 1, .int 2], .tup [.int 0, .int 1, .int 0, .int 1, .int 2, .int 1], .tup [.int 0, .int 1, .int 0, .int 1, .int 2, .int 2], .tup [.int 0, .int 1, .int 0, .int 2, .int 0, .int 2], .tup [.int 0, .int 1, .int 0, .int 2, .int 1, .int 1], .tup [.int 0, .int 1, .int 0, .int 2, .int 1, .int 2], .tup [.int 0, .int 1, .int 0, .int 2, .int 2, .int 1], .tup [.int 0, .int 1, .int 0, .int 2, .int 2, .int 2], .tup [.int 0, .int 1, .int 1, .int 0, .int 1, .int 2], .tup [.int 0, .int 1, .int 1, .int 0, .int 2, .int 1], .tup [.int 0, .int 1, .int 1, .int 0, .int 2, .int 2], .tup [.int 0, .int 1, .int 1, .int 1, .int 0, .int 2], .tup [.int 0, .int 1, .int 1, .int 1, .int 1, .int 1], .tup [.int 0, .int 1, .int 1, .int 1, .int 1, .int 2], .tup [.int 0, .int 1, .int 1, .int 1, .int 2, .int 1], .tup [.int 0, .int 1, .int 1, .int 1, .int 2, .int 2], .tup [.int 0, .int 1, .int 1, .int 2, .int 0, .int 2], .tup [.int 0, .int 1, .int 1, .int 2, .int 1, .int 1], .tup [.int 0, .int 1, .int 1, .int 2, .int 1, .int 2], .tup [.int 0, .int 1, .int 1, .int 2, .int 2, .int 1], .tup [.int 0, .int 1, .int 1, .int 2, .int 2, .int 2], .tup [.int 0, .int 1, .int 2, .int 0, .int 2, .int 1], .tup [.int 0, .int 1, .int 2, .int 0, .int 2, .int 2], .tup [.int 0, .int 1, .int 2, .int 1, .int 0, .int 2], .tup [.int 0, .int 1, .int 2, .int 1, .int 1, .int 1], .tup [.int 0, .int 1, .int 2, .int 1, .int 1, .int 2], .tup [.int 0, .int 1, .int 2, .int 1, .int 2, .int 1], .tup [.int 0, .int 1, .int 2, .int 1, .int 2, .int 2], .tup [.int 0, .int 1, .int 2, .int 2, .int 0, .int 2], .tup [.int 0, .int 1, .int 2, .int 2, .int 1, .int 1], .tup [.int 0, .int 1, .int 2, .int 2, .int 1, .int 2], .tup [.int 0, .int 1, .int 2, .int 2, .int 2, .int 1], .tup [.int 0, .int 1, .int 2, .int 2, .int 2, .int 2], .tup [.int 0, .int 2, .int 0, .int 2, .int 1, .int 1], .tup [.int 0, .int 2, .int 0, .int 2, .int 1, .int 2], .tup [.int 0, .int 2, .int 0, .int 2, .int 2, .int 1], .tup [.int 0, .int 2, .int 0, .int 2, .int 2, .int 2], .tup [.int 0, .int 2, .int 1, .int 0, .int 2, .int 2], .tup [.int 0, .int 2, .int 1, .int 1, .int 1, .int 1], .tup [.int 0, .int 2, .int 1, .int 1, .int 1, .int 2], .tup [.int 0, .int 2, .int 1, .int 1, .int 2, .int 1], .tup [.int 0, .int 2, .int 1, .int 1, .int 2, .int 2], .tup [.int 0, .int 2, .int 1, .int 2, .int 1, .int 1], .tup [.int 0, .int 2, .int 1, .int 2, .int 1, .int 2], .tup [.int 0, .int 2, .int 1, .int 2, .int 2, .int 1], .tup [.int 0, .int 2, .int 1, .int 2, .int 2, .int 2], .tup [.int 0, .int 2, .int 2, .int 1, .int 1, .int 1], .tup [.int 0, .int 2, .int 2, .int 1, .int 1, .int 2], .tup [.int 0, .int 2, .int 2, .int 1, .int 2, .int 1], .tup [.int 0, .int 2, .int 2, .int 1, .int 2, .int 2], .tup [.int 0, .int 2, .int 2, .int 2, .int 1, .int 1], .tup [.int 0, .int 2, .int 2, .int 2, .int 1, .int 2], .tup [.int 0, .int 2, .int 2, .int 2, .int 2, .int 1], .tup [.int 0, .int 2, .int 2, .int 2, .int 2, .int 2]]), (3669, .lst [.tup [.int 0, .int 0, .int 0, .int 0, .int 0, .int 0], .tup [.int 0, .int 0, .int 0, .int 0, .int 0, .int 1], .tup [.int 0, .int 0, .int 0, .int 0, .int 0, .int 2], .tup [.int 0, .int 0, .int 0, .int 0, .int 1, .int 1], .tup [.int 0, .int 0, .int 0, .int 0, .int 1, .int 2], .tup [.int 0, .int 0, .int 0, .int 0, .int 2, .int 2], .tup [.int 0, .int 0, .int 0, .int 1, .int 0, .int 1], .tup [.int 0, .int 0, .int 0, .int 1, .int 0, .int 2], .tup [.int 0, .int 0, .int 0, .int 1, .int 1, .int 1], .tup [.int 0, .int 0, .int 0, .int 1, .int 1, .int 2], .tup [.int 0, .int 0, .int 0, .int 1, .int 2, .int 1], .tup [.int 0, .int 0, .int 0, .int 1, .int 2, .int 2], .tup [.int 0, .int 0, .int 0, .int 2, .int 0, .int 2], .tup [.int 0, .int 0, .int 0, .int 2, .int 1, .int 2], .tup [.int 0, .int 0, .int 0, .int 2, .int 2, .int 2], .tup [.int 0, .int 0, .int 1, .int 0, .int 0, .int 1], .tup [.int 0, .int 0, .int 1, .int 0, .int 0, .int 2], .tup [.int 0, .int 0, .int 1, .int 0, .int 1, .int 1], .tup [.int 0, .int 0, .int 1, .int 0, .int 1, .int 2], .tup [.int 0, .int 0, .int 1, .int 0, .int 2, .int 1], .tup [.int 0, .int 0, .int 1, .int 0, .int 2, .int 2], .tup [.int 0, .int 0, .int 1, .int 1, .int 0, .int 2], .tup [.int 0, .int 0, .int 1, .int 1, .int 1, .int 1], .tup [.int 0, .int 0, .int 1, .int 1, .int 1, .int 2], .tup [.int 0, .int 0, .int 1, .int 1, .int 2, .int 1], .tup [.int 0, .int 0, .int 1, .int 1, .int 2, .int 2], .tup [.int 0, .int 0, .int 1, .int 2, .int 0, .int 2], .tup [.int 0, .int 0, .int 1, .int 2, .int 1, .int 2], .tup [.int 0, .int 0, .int 1, .int 2, .int 2, .int 1], .tup [.int 0, .int 0, .int 1, .int 2, .int 2, .int 2], .tup [.int 0, .int 0, .int 2, .int 0, .int 0, .int 2], .tup [.int 0, .int 0, .int 2, .int 0, .int 1, .int 2], .tup [.int 0, .int 0, .int 2, .int 0, .int 2, .int 2], .tup [.int 0, .int 0, .int 2, .int 1, .int 1, .int 2], .tup [.int 0, .int 0, .int 2, .int 1, .int 2, .int 2], .tup [.int 0, .int 0, .int 2, .int 2, .int 2, .int 2], .tup [.int 0, .int 1, .int 0, .int 1, .int 0, .int 1], .tup [.int 0, .int 1, .int 0, .int 1, .int 0, .int 2], .tup [.int 0, .int 1, .int 0, .int 1, .int 1, .int 1], .tup [.int 0, .int 1, .int 0, .int 1, .int 1, .int 2], .tup [.int 0, .int 1, .int 0, .int 1, .int 2, .int 1], .tup [.int 0, .int 1, .int 0, .int 1, .int 2, .int 2], .tup [.int 0, .int 1, .int 0, .int 2, .int 0, .int 2], .tup [.int 0, .int 1, .int 0, .int 2, .int 1, .int 2], .tup [.int 0, .int 1, .int 0, .int 2, .int 2, .int 2], .tup [.int 0, .int 1, .int 1, .int 0, .int 1, .int 1], .tup [.int 0, .int 1, .int 1, .int 0, .int 1, .int 2], .tup [.int 0, .int 1, .int 1, .int 0, .int 2, .int 2], .tup [.int 0, .int 1, .int 1, .int 1, .int 0, .int 2], .tup [.int 0, .int 1, .int 1, .int 1, .int 1, .int 1], .tup [.int 0, .int 1, .int 1, .int 1, .int 1, .int 2], .tup [.int 0, .int 1, .int 1, .int 1, .int 2, .int 1], .tup [.int 0, .int 1, .int 1, .int 1, .int 2, .int 2], .tup [.int 0, .int 1, .int 1, .int 2, .int 0, .int 2], .tup [.int 0, .int 1, .int 1, .int 2, .int 1, .int 1], .tup [.int 0, .int 1, .int 1, .int 2, .int 1, .int 2], .tup [.int 0, .int 1, .int 1, .int 2, .int 2, .int 1], .tup [.int 0, .int 1, .int 1, .int 2, .int 2, .int 2], .tup [.int 0, .int 1, .int 2, .int 0, .int 1, .int 2], .tup [.int 0, .int 1, .int 2, .int 0, .int 2, .int 1], .tup [.int 0, .int 1, .int 2, .int 0, .int 2, .int 2], .tup [.int 0, .int 1, .int 2, .int 1, .int 0, .int 2], .tup [.int 0, .int 1, .int 2, .int 1, .int 1, .int 2], .tup [.int 0, .int 1, .int 2, .int 1, .int 2, .int 1], .tup [.int 0, .int 1, .int 2, .int 1, .int 2, .int 2], .tup [.int 0, .int 1, .int 2, .int 2, .int 0, .int 2], .tup [.int 0, .int 1, .int 2, .int 2, .int 1, .int 2], .tup [.int 0, .int 1, .int 2, .int 2, .int 2, .int 1], .tup [.int 0, .int 1, .int 2, .int 2, .int 2, .int 2], .tup [.int 0, .int 2, .int 0, .int 2, .int 0, .int 2], .tup [.int 0, .int 2, .int 0, .int 2, .int 1, .int 2], .tup [.int 0, .int 2, .int 0, .int 2, .int 2, .int 2], .tup [.int 0, .int 2, .int 1, .int 1, .int 1, .int 2], .tup [.int 0, .int 2, .int 1, .int 1, .int 2, .int 2], .tup [.int 0, .int 2, .int 1, .int 2, .int 1, .int 2], .tup [.int 0, .int 2, .int 1, .int 2, .int 2, .int 2], .tup [.int 0, .int 2, .int 2, .int 0, .int 2, .int 2], .tup [.int 0, .int 2, .int 2, .int 1, .int 2, .int 2], .tup [.int 0, .int 2, .int 2, .int 2, .int 2, .int 2]]), (3664, .lst [.tup [.int 0, .int 0, .int 0, .int 0, .int 0, .int 0], .tup [.int 0, .int 0, .int 0, .int 0, .int 0, .int 1], .tup [.int 0, .int 0, .int 0, .int 0, .int 0, .int 2], .tup [.int 0, .int 0, .int 0, .int 0, .int 1, .int 1], .tup [.int 0, .int 0, .int 0, .int 0, .int 1, .int 2], .tup [.int 0, .int 0, .int 0, .int 0, .int 2, .int 1], .tup [.int 0, .int 0, .int 0, .int 0, .int 2, .int 2], .tup [.int 0, .int 0, .int 0, .int 1, .int 0, .int 1], .tup [.int 0, .int 0, .int 0, .int 1, .int 0, .int 2], .tup [.int 0, .int 0, .int 0, .int 1, .int 1, .int 1], .tup [.int 0, .int 0, .int 0, .int 1, .int 1, .int 2], .tup [.int 0, .int 0, .int 0, .int 1, .int 2, .int 1], .tup [.int 0, .int 0, .int 0, .int 1, .int 2, .int 2], .tup [.int 0, .int 0, .int 0, .int 2, .int 0, .int 1], .tup [.int 0, .int 0, .int 0, .int 2, .int 0, .int 2], .tup [.int 0, .int 0, .int 0, .int 2, .int 1, .int 1], .tup [.int 0, .int 0, .int 0, .int 2, .int 1, .int 2], .tup [.int 0, .int 0, .int 0, .int 2, .int 2, .int 1], .tup [.int 0, .int 0, .int 0, .int 2, .int 2, .int 2], .tup [.int 0, .int 0, .int 1, .int 0, .int 0, .int 1], .tup [.int 0, .int 0, .int 1, .int 0, .int 0, .int 2], .tup [.int 0, .int 0, .int 1, .int 0, .int 1, .int 1], .tup [.int 0, .int 0, .int 1, .int 0, .int 1, .int 2], .tup [.int 0, .int 0, .int 1, .int 0, .int 2, .int 1], .tup [.int 0, .int 0, .int 1, .int 0, .int 2, .int 2], .tup [.int 0, .int 0, .int 1, .int 1, .int 0, .int 1], .tup [.int 0, .int 0, .int 1, .int 1, .int 0, .int 2], .tup [.int 0, .int 0, .int 1, .int 1, .int 1, .int 1], .tup [.int 0, .int 0, .int 1, .int 1, .int 1, .int 2], .tup [.int 0, .int 0, .int 1, .int 1, .int 2, .int 1], .tup [.int 0, .int 0, .int 1, .int 1, .int 2, .int 2], .tup [.int 0, .int 0, .int 1, .int 2, .int 0, .int 1], .tup [.int 0, .int 0, .int 1, .int 2, .int 0, .int 2], .tup [.int 0, .int 0, .int 1, .int 2, .int 1, .int 1], .tup [.int 0, .int 0, .int 1, .int 2, .int 1, .int 2], .tup [.int 0, .int 0, .int 1, .int 2, .int 2, .int 1], .tup [.int 0, .int 0, .int 1, .int 2, .int 2, .int 2], .tup [.int 0, .int 0, .int 2, .int 0, .int 0, .int 2], .tup [.int 0, .int 0, .int 2, .int 0, .int 1, .int 1], .tup [.int 0, .int 0, .int 2, .int 0, .int 1, .int 2], .tup [.int 0, .int 0, .int 2, .int 0, .int 2, .int 1], .tup [.int 0, .int 0, .int 2, .int 0, .int 2, .int 2], .tup [.int 0, .int 0, .int 2, .int 1, .int 0, .int 1], .tup [.int 0, .int 0, .int 2, .int 1, .int 0, .int 2], .tup [.int 0, .int 0, .int 2, .int 1, .int 1, .int 1], .tup [.int 0, .int 0, .int 2, .int 1, .int 1, .int 2], .tup [.int 0, .int 0, .int 2, .int 1, .int 2, .int 1], .tup [.int 0, .int 0, .int 2, .int 1, .int 2, .int 2], .tup [.int 0, .int 0, .int 2, .int 2, .int 0, .int 1], .tup [.int 0, .int 0, .int 2, .int 2, .int 0, .int 2], .tup [.int 0, .int 0, .int 2, .int 2, .int 1, .int 1], .tup [.int 0, .int 0, .int 2, .int 2, .int 1, .int 2], .tup [.int 0, .int 0, .int 2, .int 2, .int 2, .int 1], .tup [.int 0, .int 0, .int 2, .int 2, .int 2, .int 2], .tup [.int 0, .int 1, .int 0, .int 1, .int 0, .int 1], .tup [.int 0, .int 1, .int 0, .int 1, .int 0, .int 2], .tup [.int 0, .int 1, .int 0, .int 1, .int 1, .int 1], .tup [.int 0, .int 1, .int 0, .int 1, .int 1, .int 2], .tup [.int 0, .int 1, .int 0, .int 1, .int 2, .int 1], .tup [.int 0, .int 1, .int 0, .int 1, .int 2, .int 2], .tup [.int 0, .int 1, .int 0, .int 2, .int 0, .int 2], .tup [.int 0, .int 1, .int 0, .int 2, .int 1, .int 1], .tup [.int 0, .int 1, .int 0, .int 2, .int 1, .int 2], .tup [.int 0, .int 1, .int 0, .int 2, .int 2, .int 1], .tup [.int 0, .int 1, .int 0, .int 2, .int 2, .int 2], .tup [.int 0, .int 1, .int 1, .int 0, .int 1, .int 1], .tup [.int 0, .int 1, .int 1, .int 0, .int 1, .int 2], .tup [.int 0, .int 1, .int 1, .int 0, .int 2, .int 1], .tup [.int 0, .int 1, .int 1, .int 0, .int 2, .int 2], .tup [.int 0, .int 1, .int 1, .int 1, .int 0, .int 2], .tup [.int 0, .int 1, .int 1, .int 1, .int 1, .int 1], .tup [.int 0, .int 1, .int 1, .int 1, .int 1, .int 2], .tup [.int 0, .int 1, .int 1, .int 1, .int 2, .int 1], .tup [.int 0, .int 1, .int 1, .int 1, .int 2, .int 2], .tup [.int 0, .int 1, .int 1, .int 2, .int 0, .int 2], .tup [.int 0, .int 1, .int 1, .int 2, .int 1, .int 1], .tup [.int 0, .int 1, .int 1, .int 2, .int 1, .int 2], .tup [.int 0, .int 1, .int 1, .int 2, .int 2, .int 1], .tup [.int 0, .int 1, .int 1, .int 2, .int 2, .int 2], .tup [.int 0, .int 1, .int 2, .int 0, .int 1, .int 2], .tup [.int 0, .int 1, .int 2, .int 0, .int 2, .int 1], .tup [.int 0, .int 1, .int 2, .int 0, .int 2, .int 2], .tup [.int 0, .int 1, .int 2, .int 1, .int 0, .int 2], .tup [.int 0, .int 1, .int 2, .int 1, .int 1, .int 1], .tup [.int 0, .int 1, .int 2, .int 1, .int 1, .int 2], .tup [.int 0, .int 1, .int 2, .int 1, .int 2, .int 1], .tup [.int 0, .int 1, .int 2, .int 1, .int 2, .int 2], .tup [.int 0, .int 1, .int 2, .int 2, .int 0, .int 2], .tup [.int 0, .int 1, .int 2, .int 2, .int 1, .int 1], .tup [.int 0, .int 1, .int 2, .int 2, .int 1, .int 2], .tup [.int 0, .int 1, .int 2, .int 2, .int 2, .int 1], .tup [.int 0, .int 1, .int 2, .int 2, .int 2, .int 2], .tup [.int 0, .int 2, .int 0, .int 2, .int 0, .int 2], .tup [.int 0, .int 2, .int 0, .int 2, .int 1, .int 1], .tup [.int 0, .int 2, .int 0, .int 2, .int 1, .int 2], .tup [.int 0, .int 2, .int 0, .int 2, .int 2, .int 1], .tup [.int 0, .int 2, .int 0, .int 2, .int 2, .int 2], .tup [.int 0, .int 2, .int 1, .int 0, .int 2, .int 1], .tup [.int 0, .int 2, .int 1, .int 0, .int 2, .int 2], .tup [.int 0, .int 2, .int 1, .int 1, .int 1, .int 1], .tup [.int 0, .int 2, .int 1, .int 1, .int 1, .int 2], .tup [.int 0, .int 2, .int 1, .int 1, .int 2, .int 1], .tup [.int 0, .int 2, .int 1, .int 1, .int 2, .int 2], .tup [.int 0, .int 2, .int 1, .int 2, .int 1, .int 1], .tup [.int 0, .int 2, .int 1, .int 2, .int 1, .int 2], .tup [.int 0, .int 2, .int 1, .int 2, .int 2, .int 1], .tup [.int 0, .int 2, .int 1, .int 2, .int 2, .int 2], .tup [.int 0, .int 2, .int 2, .int 0, .int 2, .int 2], .tup [.int 0, .int 2, .int 2, .int 1, .int 1, .int 1], .tup [.int 0, .int 2, .int 2, .int 1, .int 1, .int 2], .tup [.int 0, .int 2, .int 2, .int 1, .int 2, .int 1], .tup [.int 0, .int 2, .int 2, .int 1, .int 2, .int 2], .tup [.int 0, .int 2, .int 2, .int 2, .int 1, .int 1], .tup [.int 0, .int 2, .int 2, .int 2, .int 1, .int 2], .tup [.int 0, .int 2, .int 2, .int 2, .int 2, .int 1], .tup [.int 0, .int 2, .int 2, .int 2, .int 2, .int 2]]), (741, .frz ROWS6), (0, .dice)]⟩)⟩
def P_4_1 : Pc := ⟨745, some (741, ROWS6), ROWS6.drop 366, ([none, some (.ref 0), some (.int 6), some (.int 3), some (.ref 741), none, none, some (.ref 5128), some (.ref 5133), some (.ref 5136), none, none, none, none, none, none, none], ⟨5137, [(5136, .lst [.tup [.int 0, .int 0, .int 0, .int 0, .int 0, .int 1], .tup [.int 0, .int 0, .int 0, .int 0, .int 0, .int 2], .tup [.int 0, .int 0, .int 0, .int 0, .int 1, .int 1], .tup [.int 0, .int 0, .int 0, .int 0, .int 1, .int 2], .tup [.int 0, .int 0, .int 0, .int 0, .int 2, .int 1], .tup [.int 0, .int 0, .int 0, .int 0, .int 2, .int 2], .tup [.int 0, .int 0, .int 0, .int 1, .int 0, .int 1], .tup [.int 0, .int 0, .int 0, .int 1, .int 0, .int 2], .tup [.int 0, .int 0, .int 0, .int 1, .int 1, .int 1], .tup [.int 0, .int 0, .int 0, .int 1, .int 1, .int 2], .tup [.int 0, .int 0, .int 0, .int 1, .int 2, .int 1], .tup [.int 0, .int 0, .int 0, .int 1, .int 2, .int 2], .tup [.int 0, .int 0, .int 0, .int 2, .int 0, .int 1], .tup [.int 0, .int 0, .int 0, .int 2, .int 0, .int 2], .tup [.int 0, .int 0, .int 0, .int 2, .int 1, .int 1], .tup [.int 0, .int 0, .int 0, .int 2, .int 1, .int 2], .tup [.int 0, .int 0, .int 0, .int 2, .int 2, .int 1], .tup [.int 0, .int 0, .int 0, .int 2, .int 2, .int 2], .tup [.int 0, .int 0, .int 1, .int 0, .int 0, .int 2], .tup [.int 0, .int 0, .int 1, .int 0, .int 1, .int 1], .tup [.int 0, .int 0, .int 1, .int 0, .int 1, .int 2], .tup [.int 0, .int 0, .int 1, .int 0, .int 2, .int 1], .tup [.int 0, .int 0, .int 1, .int 0, .int 2, .int 2], .tup [.int 0, .int 0, .int 1, .int 1, .int 0, .int 1], .tup [.int 0, .int 0, .int 1, .int 1, .int 0, .int 2], .tup [.int 0, .int 0, .int 1, .int 1, .int 1, .int 1], .tup [.int 0, .int 0, .int 1, .int 1, .int 1, .int 2], .tup [.int 0, .int 0, .int 1, .int 1, .int 2, .int 1], .tup [.int 0, .int 0, .int 1, .int 1, .int 2, .int 2], .tup [.int 0, .int 0, .int 1, .int 2, .int 0, .int 1], .tup [.int 0, .int 0, .int 1, .int 2, .int 0, .int 2], .tup [.int 0, .int 0, .int 1, .int 2, .int 1, .int 1], .tup [.int 0, .int 0, .int 1, .int 2, .int 1, .int 2], .tup [.int 0, .int 0, .int 1, .int 2, .int 2, .int 1], .tup [.int 0, .int 0, .int 1, .int 2, .int 2, .int 2], .tup [.int 0, .int 0, .int 2, .int 0, .int 1, .int 1], .tup [.int 0, .int 0, .int 2, .int 0, .int 1, .int 2], .tup [.int 0, .int 0, .int 2, .int 0, .int 2, .int 1], .tup [.int 0, .int 0, .int 2, .int 0, .int 2, .int 2], .tup [.int 0, .int 0, .int 2, .int 1, .int 0, .int 1], .tup [.int 0, .int 0, .int 2, .int 1, .int 0, .int 2], .tup [.int 0, .int 0, .int 2, .int 1, .int 1, .int 1], .tup [.int 0, .int 0, .int 2, .int 1, .int 1, .int 2], .tup [.int 0, .int 0, .int 2, .int 1, .int 2, .int 1], .tup [.int 0, .int 0, .int 2, .int 1, .int 2, .int 2], .tup [.int 0, .int 0, .int 2, .int 2, .int 0, .int 1], .tup [.int 0, .int 0, .int 2, .int 2, .int 0, .int 2], .tup [.int 0, .int 0, .int 2, .int 2, .int 1, .int 1], .tup [.int 0, .int 0, .int 2, .int 2, .int 1, .int 2], .tup [.int 0, .int 0, .int 2, .int 2, .int 2, .int 1], .tup [.int 0, .int 0, .int 2, .int 2, .int 2, .int 2], .tup [.int 0, .int 1, .int 0, .int 1, .int 0, .int 2], .tup [.int 0, .int 1, .int 0, .int 1, .int 1, .int 1], .tup [.int 0, .int 1, .int 0, .int 1, .int 1, .int 2], .tup [.int 0, .int 1, .int 0, .int 1, .int 2, .int 1], .tup [.int 0, .int 1, .int 0, .int 1, .int 2, .int 2], .tup [.int 0, .int 1, .int 0, .int 2, .int 0, .int 2], .tup [.int 0, .int 1, .int 0, .int 2, .int 1, .int 1], .tup [.int 0, .int 1, .int 0, .int 2, .int 1, .int 2], .tup [.int 0, .int 1, .int 0, .int 2, .int 2, .int 1], .tup [.int 0, .int 1, .int 0, .int 2, .int 2, .int 2], .tup [.int 0, .int 1, .int 1, .int 0, .int 1, .int 2], .tup [.int 0, .int 1, .int 1, .int 0, .int 2, .int 1], .tup [.int 0, .int 1, .int 1, .int 0, .int 2, .int 2], .tup [.int 0, .int 1, .int 1, .int 1, .int 0, .int 2], .tup [.int 0, .int 1, .int 1, .int 1, .int 1, .int 1], .tup [.int 0, .int 1, .int 1, .int 1, .int 1, .int 2], .tup [.int 0, .int 1, .int 1, .int 1, .int 2, .int 1], .tup [.int 0, .int 1, .int 1, .int 1, .int 2, .int 2], .tup [.int 0, .int 1, .int 1, .int 2, .int 0, .int 2], .tup [.int 0, .int 1, .int 1, .int 2, .int 1, .int 1], .tup [.int 0, .int 1, .int 1, .int 2, .int 1, .int 2], .tup [.int 0, .int 1, .int 1, .int 2, .int 2, .int 1], .tup [.int 0, .int 1, .int 1, .int 2, .int 2, .int 2], .tup [.int 0, .int 1, .int 2, .int 0, .int 2, .int 1], .tup [.int 0, .int 1, .int 2, .int 0, .int 2, .int 2], .tup [.int 0, .int 1, .int 2, .int 1, .int 0, .int 2], .tup [.int 0, .int 1, .int 2, .int 1, .int 1, .int 1], .tup [.int 0, .int 1, .int 2, .int 1, .int 1, .int 2], .tup [.int 0, .int 1, .int 2, .int 1, .int 2, .int 1], .tup [.int 0, .int 1, .int 2, .int 1, .int 2, .int 2], .tup [.int 0, .int 1, .int 2, .int 2, .int 0, .int 2], .tup [.int 0, .int 1, .int 2, .int 2, .int 1, .int 1], .tup [.int 0, .int 1, .int 2, .int 2, .int 1, .int 2], .tup [.int 0, .int 1, .int 2, .int 2, .int 2, .int 1], .tup [.int 0, .int 1, .int 2, .int 2, .int 2, .int 2], .tup [.int 0, .int 2, .int 0, .int 2, .int 1, .int 1], .tup [.int 0, .int 2, .int 0, .int 2, .int 1, .int 2], .tup [.int 0, .int 2, .int 0, .int 2, .int 2, .int 1], .tup [.int 0, .int 2, .int 0, .int 2, .int 2, .int 2], .tup [.int 0, .int 2, .int 1, .int 0, .int 2, .int 2], .tup [.int 0, .int 2, .int 1, .int 1, .int 1, .int 1], .tup [.int 0, .int 2, .int 1, .int 1, .int 1, .int 2], .tup [.int 0, .int 2, .int 1, .int 1, .int 2, .int 1], .tup [.int 0, .int 2, .int 1, .int 1, .int 2, .int 2], .tup [.int 0, .int 2, .int 1, .int 2, .int 1, .int 1], .tup [.int 0, .int 2, .int 1, .int 2, .int 1, .int 2], .tup [.int 0, .int 2, .int 1, .int 2, .int 2, .int 1], .tup [.int 0, .int 2, .int 1, .int 2, .int 2, .int 2], .tup [.int 0, .int 2, .int 2, .int 1, .int 1, .int 1], .tup [.int 0, .int 2, .int 2, .int 1, .int 1, .int 2], .tup [.int 0, .int 2, .int 2, .int 1, .int 2, .int 1], .tup [.int 0, .int 2, .int 2, .int 1, .int 2, .int 2], .tup [.int 0, .int 2, .int 2, .int 2, .int 1, .int 1], .tup [.int 0, .int 2, .int 2, .int 2, .int 1, .int 2], .tup [.int 0, .int 2, .int 2, .int 2, .int 2, .int 1], .tup [.int 0, .int 2, .int 2, .int 2, .int 2, .int 2], .tup [.int 1, .int 1, .int 1, .int 1, .int 1, .int 2]]), (5133, .lst [.tup [.int 0, .int 0, .int 0, .int 0, .int 0, .int 0], .tup [.int 0, .int 0, .int 0, .int 0, .int 0, .int 1], .tup [.int 0, .int 0, .int 0, .int 0, .int 0, .int 2], .tup [.int 0, .int 0, .int 0, .int 0, .int 1, .int 1], .tup [.int 0, .int 0, .int 0, .int 0, .int 1, .int 2], .tup [.int 0, .int 0, .int 0, .int 0, .int 2, .int 2], .tup [.int 0, .int 0, .int 0, .int 1, .int 0, .int 1], .tup [.int 0, .int 0, .int 0, .int 1, .int 0, .int 2], .tup [.int 0, .int 0, .int 0, .int 1, .int 1, .int 1], .tup [.int 0, .int 0, .int 0, .int 1, .int 1, .int 2], .tup [.int 0, .int 0, .int 0, .int 1, .int 2, .int 1], .tup [.int 0, .int 0, .int 0, .int 1, .int 2, .int 2], .tup [.int 0, .int 0, .int 0, .int 2, .int 0, .int 2], .tup [.int 0, .int 0, .int 0, .int 2, .int 1, .int 2], .tup [.int 0, .int 0, .int 0, .int 2, .int 2, .int 2], .tup [.int 0, .int 0, .int 1, .int 0, .int 0, .int 1], .tup [.int 0, .int 0, .int 1, .int 0, .int 0, .int 2], .tup [.int 0, .int 0, .int 1, .int 0, .int 1, .int 1], .tup [.int 0, .int 0, .int 1, .int 0, .int 1, .int 2], .tup [.int 0, .int 0, .int 1, .int 0, .int 2, .int 1], .tup [.int 0, .int 0, .int 1, .int 0, .int 2, .int 2], .tup [.int 0, .int 0, .int 1, .int 1, .int 0, .int 2], .tup [.int 0, .int 0, .int 1, .int 1, .int 1, .int 1], .tup [.int 0, .int 0, .int 1, .int 1, .int 1, .int 2], .tup [.int 0, .int 0, .int 1, .int 1, .int 2, .int 1], .tup [.int 0, .int 0, .int 1, .int 1, .int 2, .int 2], .tup [.int 0, .int 0, .int 1, .int 2, .int 0, .int 2], .tup [.int 0, .int 0, .int 1, .int 2, .int 1, .int 2], .tup [.int 0, .int 0, .int 1, .int 2, .int 2, .int 1], .tup [.int 0, .int 0, .int 1, .int 2, .int 2, .int 2], .tup [.int 0, .int 0, .int 2, .int 0, .int 0, .int 2], .tup [.int 0, .int 0, .int 2, .int 0, .int 1, .int 2], .tup [.int 0, .int 0, .int 2, .int 0, .int 2, .int 2], .tup [.int 0, .int 0, .int 2, .int 1, .int 1, .int 2], .tup [.int 0, .int 0, .int 2, .int 1, .int 2, .int 2], .tup [.int 0, .int 0, .int 2, .int 2, .int 2, .int 2], .tup [.int 0, .int 1, .int 0, .int 1, .int 0, .int 1], .tup [.int 0, .int 1, .int 0, .int 1, .int 0, .int 2], .tup [.int 0, .int 1, .int 0, .int 1, .int 1, .int 1], .tup [.int 0, .int 1, .int 0, .int 1, .int 1, .int 2], .tup [.int 0, .int 1, .int 0, .int 1, .int 2, .int 1], .tup [.int 0, .int 1, .int 0, .int 1, .int 2, .int 2], .tup [.int 0, .int 1, .int 0, .int 2, .int 0, .int 2], .tup [.int 0, .int 1, .int 0, .int 2, .int 1, .int 2], .tup [.int 0, .int 1, .int 0, .int 2, .int 2, .int 2], .tup [.int 0, .int 1, .int 1, .int 0, .int 1, .int 1], .tup [.int 0, .int 1, .int 1, .int 0, .int 1, .int 2], .tup [.int 0, .int 1, .int 1, .int 0, .int 2, .int 2], .tup [.int 0, .int 1, .int 1, .int 1, .int 0, .int 2], .tup [.int 0, .int 1, .int 1, .int 1, .int 1, .int 1], .tup [.int 0, .int 1, .int 1, .int 1, .int 1, .int 2], .tup [.int 0, .int 1, .int 1, .int 1, .int 2, .int 1], .tup [.int 0, .int 1, .int 1, .int 1, .int 2, .int 2], .tup [.int 0, .int 1, .int 1, .int 2, .int 0, .int 2], .tup [.int 0, .int 1, .int 1, .int 2, .int 1, .int 1], .tup [.int 0, .int 1, .int 1, .int 2, .int 1, .int 2], .tup [.int 0, .int 1, .int 1, .int 2, .int 2, .int 1], .tup [.int 0, .int 1, .int 1, .int 2, .int 2, .int 2], .tup [.int 0, .int 1, .int 2, .int 0, .int 1, .int 2], .tup [.int 0, .int 1, .int 2, .int 0, .int 2, .int 1], .tup [.int 0, .int 1, .int 2, .int 0, .int 2, .int 2], .tup [.int 0, .int 1, .int 2, .int 1, .int 0, .int 2], .tup [.int 0, .int 1, .int 2, .int 1, .int 1, .int 2], .tup [.int 0, .int 1, .int 2, .int 1, .int 2, .int 1], .tup [.int 0, .int 1, .int 2, .int 1, .int 2, .int 2], .tup [.int 0, .int 1, .int 2, .int 2, .int 0, .int 2], .tup [.int 0, .int 1, .int 2, .int 2, .int 1, .int 2], .tup [.int 0, .int 1, .int 2, .int 2, .int 2, .int 1], .tup [.int 0, .int 1, .int 2, .int 2, .int 2, .int 2], .tup [.int 0, .int 2, .int 0, .int 2, .int 0, .int 2], .tup [.int 0, .int 2, .int 0, .int 2, .int 1, .int 2], .tup [.int 0, .int 2, .int 0, .int 2, .int 2, .int 2], .tup [.int 0, .int 2, .int 1, .int 1, .int 1, .int 2], .tup [.int 0, .int 2, .int 1, .int 1, .int 2, .int 2], .tup [.int 0, .int 2, .int 1, .int 2, .int 1, .int 2], .tup [.int 0, .int 2, .int 1, .int 2, .int 2, .int 2], .tup [.int 0, .int 2, .int 2, .int 0, .int 2, .int 2], .tup [.int 0, .int 2, .int 2, .int 1, .int 2, .int 2], .tup [.int 0, .int 2, .int 2, .int 2, .int 2, .int 2], .tup [.int 1, .int 1, .int 1, .int 1, .int 1, .int 1], .tup [.int 1, .int 1, .int 1, .int 1, .int 1, .int 2]]), (5128, .lst [.tup [.int 0, .int 0, .int 0, .int 0, .int 0, .int 0], .tup [.int 0, .int 0, .int 0, .int 0, .int 0, .int 1], .tup [.int 0, .int 0, .int 0, .int 0, .int 0, .int 2], .tup [.int 0, .int 0, .int 0, .int 0, .int 1, .int 1], .tup [.int 0, .int 0, .int 0, .int 0, .int 1, .int 2], .tup [.int 0, .int 0, .int 0, .int 0, .int 2, .int 1], .tup [.int 0, .int 0, .int 0, .int 0, .int 2, .int 2], .tup [.int 0, .int 0, .int 0, .int 1, .int 0, .int 1], .tup [.int 0, .int 0, .int 0, .int 1, .int 0, .int 2], .tup [.int 0, .int 0, .int 0, .int 1, .int 1, .int 1], .tup [.int 0, .int 0, .int 0, .int 1, .int 1, .int 2], .tup [.int 0, .int 0, .int 0, .int 1, .int 2, .int 1], .tup [.int 0, .int 0, .int 0, .int 1, .int 2, .int 2], .tup [.int 0, .int 0, .int 0, .int 2, .int 0, .int 1], .tup [.int 0, .int 0, .int 0, .int 2, .int 0, .int 2], .tup [.int 0, .int 0, .int 0, .int 2, .int 1, .int 1], .tup [.int 0, .int 0, .int 0, .int 2, .int 1, .int 2], .tup [.int 0, .int 0, .int 0, .int 2, .int 2, .int 1], .tup [.int 0, .int 0, .int 0, .int 2, .int 2, .int 2], .tup [.int 0, .int 0, .int 1, .int 0, .int 0, .int 1], .tup [.int 0, .int 0, .int 1, .int 0, .int 0, .int 2], .tup [.int 0, .int 0, .int 1, .int 0, .int 1, .int 1], .tup [.int 0, .int 0, .int 1, .int 0, .int 1, .int 2], .tup [.int 0, .int 0, .int 1, .int 0, .int 2, .int 1], .tup [.int 0, .int 0, .int 1, .int 0, .int 2, .int 2], .tup [.int 0, .int 0, .int 1, .int 1, .int 0, .int 1], .tup [.int 0, .int 0, .int 1, .int 1, .int 0, .int 2], .tup [.int 0, .int 0, .int 1, .int 1, .int 1, .int 1], .tup [.int 0, .int 0, .int 1, .int 1, .int 1, .int 2], .tup [.int 0, .int 0, .int 1, .int 1, .int 2, .int 1], .tup [.int 0, .int 0, .int 1, .int 1, .int 2, .int 2], .tup [.int 0, .int 0, .int 1, .int 2, .int 0, .int 1], .tup [.int 0, .int 0, .int 1, .int 2, .int 0, .int 2], .tup [.int 0, .int 0, .int 1, .int 2, .int 1, .int 1], .tup [.int 0, .int 0, .int 1, .int 2, .int 1, .int 2], .tup [.int 0, .int 0, .int 1, .int 2, .int 2, .int 1], .tup [.int 0, .int 0, .int 1, .int 2, .int 2, .int 2], .tup [.int 0, .int 0, .int 2, .int 0, .int 0, .int 2], .tup [.int 0, .int 0, .int 2, .int 0, .int 1, .int 1], .tup [.int 0, .int 0, .int 2, .int 0, .int 1, .int 2], .tup [.int 0, .int 0, .int 2, .int 0, .int 2, .int 1], .tup [.int 0, .int 0, .int 2, .int 0, .int 2, .int 2], .tup [.int 0, .int 0, .int 2, .int 1, .int 0, .int 1], .tup [.int 0, .int 0, .int 2, .int 1, .int 0, .int 2], .tup [.int 0, .int 0, .int 2, .int 1, .int 1, .int 1], .tup [.int 0, .int 0, .int 2, .int 1, .int 1, .int 2], .tup [.int 0, .int 0, .int 2, .int 1, .int 2, .int 1], .tup [.int 0, .int 0, .int 2, .int 1, .int 2, .int 2], .tup [.int 0, .int 0, .int 2, .int 2, .int 0, .int 1], .tup [.int 0, .int 0, .int 2, .int 2, .int 0, .int 2], .tup [.int 0, .int 0, .int 2, .int 2, .int 1, .int 1], .tup [.int 0, .int 0, .int 2, .int 2, .int 1, .int 2], .tup [.int 0, .int 0, .int 2, .int 2, .int 2, .int 1], .tup [.int 0, .int 0, .int 2, .int 2, .int 2, .int 2], .tup [.int 0, .int 1, .int 0, .int 1, .int 0, .int 1], .tup [.int 0, .int 1, .int 0, .int 1, .int 0, .int 2], .tup [.int 0, .int 1, .int 0, .int 1, .int 1, .int 1], .tup [.int 0, .int 1, .int 0, .int 1, .int 1, .int 2], .tup [.int 0, .int 1, .int 0, .int 1, .int 2, .int 1], .tup [.int 0, .int 1, .int 0, .int 1, .int 2, .int 2], .tup [.int 0, .int 1, .int 0, .int 2, .int 0, .int 2], .tup [.int 0, .int 1, .int 0, .int 2, .int 1, .int 1], .tup [.int 0, .int 1, .int 0, .int 2, .int 1, .int 2], .tup [.int 0, .int 1, .int 0, .int 2, .int 2, .int 1], .tup [.int 0, .int 1, .int 0, .int 2, .int 2, .int 2], .tup [.int 0, .int 1, .int 1, .int 0, .int 1, .int 1], .tup [.int 0, .int 1, .int 1, .int 0, .int 1, .int 2], .tup [.int 0, .int 1, .int 1, .int 0, .int 2, .int 1], .tup [.int 0, .int 1, .int 1, .int 0, .int 2, .int 2], .tup [.int 0, .int 1, .int 1, .int 1, .int 0, .int 2], .tup [.int 0, .int 1, .int 1, .int 1, .int 1, .int 1], .tup [.int 0, .int 1, .int 1, .int 1, .int 1, .int 2], .tup [.int 0, .int 1, .int 1, .int 1, .int 2, .int 1], .tup [.int 0, .int 1, .int 1, .int 1, .int 2, .int 2], .tup [.int 0, .int 1, .int 1, .int 2, .int 0, .int 2], .tup [.int 0, .int 1, .int 1, .int 2, .int 1, .int 1], .tup [.int 0, .int 1, .int 1, .int 2, .int 1, .int 2], .tup [.int 0, .int 1, .int 1, .int 2, .int 2, .int 1], .tup [.int 0, .int 1, .int 1, .int 2, .int 2, .int 2], .tup [.int 0, .int 1, .int 2, .int 0, .int 1, .int 2], .tup [.int 0, .int 1, .int 2, .int 0, .int 2, .int 1], .tup [.int 0, .int 1, .int 2, .int 0, .int 2, .int 2], .tup [.int 0, .int 1, .int 2, .int 1, .int 0, .int 2], .tup [.int 0, .int 1, .int 2, .int 1, .int 1, .int 1], .tup [.int 0, .int 1, .int 2, .int 1, .int 1, .int 2], .tup [.int 0, .int 1, .int 2, .int 1, .int 2, .int 1], .tup [.int 0, .int 1, .int 2, .int 1, .int 2, .int 2], .tup [.int 0, .int 1, .int 2, .int 2, .int 0, .int 2], .tup [.int 0, .int 1, .int 2, .int 2, .int 1, .int 1], .tup [.int 0, .int 1, .int 2, .int 2, .int 1, .int 2], .tup [.int 0, .int 1, .int 2, .int 2, .int 2, .int 1], .tup [.int 0, .int 1, .int 2, .int 2, .int 2, .int 2], .tup [.int 0, .int 2, .int 0, .int 2, .int 0, .int 2], .tup [.int 0, .int 2, .int 0, .int 2, .int 1, .int 1], .tup [.int 0, .int 2, .int 0, .int 2, .int 1, .int 2], .tup [.int 0, .int 2, .int 0, .int 2, .int 2, .int 1], .tup [.int 0, .int 2, .int 0, .int 2, .int 2, .int 2], .tup [.int 0, .int 2, .int 1, .int 0, .int 2, .int 1], .tup [.int 0, .int 2, .int 1, .int 0, .int 2, .int 2], .tup [.int 0, .int 2, .int 1, .int 1, .int 1, .int 1], .tup [.int 0, .int 2, .int 1, .int 1, .int 1, .int 2], .tup [.int 0, .int 2, .int 1, .int 1, .int 2, .int 1], .tup [.int 0, .int 2, .int 1, .int 1, .int 2, .int 2], .tup [.int 0, .int 2, .int 1, .int 2, .int 1, .int 1], .tup [.int 0, .int 2, .int 1, .int 2, .int 1, .int 2], .tup [.int 0, .int 2, .int 1, .int 2, .int 2, .int 1], .tup [.int 0, .int 2, .int 1, .int 2, .int 2, .int 2], .tup [.int 0, .int 2, .int 2, .int 0, .int 2, .int 2], .tup [.int 0, .int 2, .int 2, .int 1, .int 1, .int 1], .tup [.int 0, .int 2, .int 2, .int 1, .int 1, .int 2], .tup [.int 0, .int 2, .int 2, .int 1, .int 2, .int 1], .tup [.int 0, .int 2, .int 2, .int 1, .int 2, .int 2], .tup [.int 0, .int 2, .int 2, .int 2, .int 1, .int 1], .tup [.int 0, .int 2, .int 2, .int 2, .int 1, .int 2], .tup [.int 0, .int 2, .int 2, .int 2, .int 2, .int 1], .tup [.int 0, .int 2, .int 2, .int 2, .int 2, .int 2], .tup [.int 1, .int 1, .int 1, .int 1, .int 1, .int 1], .tup [.int 1, .int 1, .int 1, .int 1, .int 1, .int 2]]), (741, .frz ROWS6), (0, .dice)]⟩)⟩
def P_4_2 : Pc := ⟨745, some (741, ROWS6), ROWS6.drop 488, ([none, some (.ref 0), some (.int 6), some (.int 3), some (.ref 741), none, none, some (.ref 6592), some (.ref 6597), some (.ref 6600), none, none, none, none, none, none, none], ⟨6601, [(6600, .lst [.tup [.int 0, .int 0, .int 0, .int 0, .int 0, .int 1], .tup [.int 0, .int 0, .int 0, .int 0, .int 0, .int 2], .tup [.int 0, .int 0, .int 0, .int 0, .int 1, .int 1], .tup [.int 0, .int 0, .int 0, .int 0, .int 1, .int 2], .tup [.int 0, .int 0, .int 0, .int 0, .int 2, .int 1], .tup [.int 0, .int 0, .int 0, .int 0, .int 2, .int 2], .tup [.int 0, .int 0, .int 0, .int 1, .int 0, .int 1], .tup [.int 0, .int 0, .int 0, .int 1, .int 0, .int 2], .tup [.int 0, .int 0, .int 0, .int 1, .int 1, .int 1], .tup [.int 0, .int 0, .int 0, .int 1, .int 1, .int 2], .tup [.int 0, .int 0, .int 0, .int 1, .int 2, .int 1], .tup [.int 0, .int 0, .int 0, .int 1, .int 2, .int 2], .tup [.int 0, .int 0, .int 0, .int 2, .int 0, .int 1], .tup [.int 0, .int 0, .int 0, .int 2, .int 0, .int 2], .tup [.int 0, .int 0, .int 0, .int 2, .int 1, .int 1], .tup [.int 0, .int 0, .int 0, .int 2, .int 1, .int 2], .tup [.int 0, .int 0, .int 0, .int 2, .int 2, .int 1], .tup [.int 0, .int 0, .int 0, .int 2, .int 2, .int 2], .tup [.int 0, .int 0, .int 1, .int 0, .int 0, .int 2], .tup [.int 0, .int 0, .int 1, .int 0, .int 1, .int 1], .tup [.int 0, .int 0, .int 1, .int 0, .int 1, .int 2], .tup [.int 0, .int 0, .int 1, .int 0, .int 2, .int 1], .tup [.int 0, .int 0, .int 1, .int 0, .int 2, .int 2], .tup [.int 0, .int 0, .int 1, .int 1, .int 0, .int 1], .tup [.int 0, .int 0, .int 1, .int 1, .int 0, .int 2], .tup [.int 0, .int 0, .int 1, .int 1, .int 1, .int 1], .tup [.int 0, .int 0, .int 1, .int 1, .int 1, .int 2], .tup [.int 0, .int 0, .int 1, .int 1, .int 2, .int 1], .tup [.int 0, .int 0, .int 1, .int 1, .int 2, .int 2], .tup [.int 0, .int 0, .int 1, .int 2, .int 0, .int 1], .tup [.int 0, .int 0, .int 1, .int 2, .int 0, .int 2], .tup [.int 0, .int 0, .int 1, .int 2, .int 1, .int 1], .tup [.int 0, .int 0, .int 1, .int 2, .int 1, .int 2], .tup [.int 0, .int 0, .int 1, .int 2, .int 2, .int 1], .tup [.int 0, .int 0, .int 1, .int 2, .int 2, .int 2], .tup [.int 0, .int 0, .int 2, .int 0, .int 1, .int 1], .tup [.int 0, .int 0, .int 2, .int 0, .int 1, .int 2], .tup [.int 0, .int 0, .int 2, .int 0, .int 2, .int 1], .tup [.int 0, .int 0, .int 2, .int 0, .int 2, .int 2], .tup [.int 0, .int 0, .int 2, .int 1, .int 0, .int 1], .tup [.int 0, .int 0, .int 2, .int 1, .int 0, .int 2], .tup [.int 0, .int 0, .int 2, .int 1, .int 1, .int 1], .tup [.int 0, .int 0, .int 2, .int 1, .int 1, .int 2], .tup [.int 0, .int 0, .int 2, .int 1, .int 2, .int 1], .tup [.int 0, .int 0, .int 2, .int 1, .int 2, .int 2], .tup [.int 0, .int 0, .int 2, .int 2, .int 0, .int 1], .tup [.int 0, .int 0, .int 2, .int 2, .int 0, .int 2], .tup [.int 0, .int 0, .int 2, .int 2, .int 1, .int 1], .tup [.int 0, .int 0, .int 2, .int 2, .int 1, .int 2], .tup [.int 0, .int 0, .int 2, .int 2, .int 2, .int 1], .tup [.int 0, .int 0, .int 2, .int 2, .int 2, .int 2], .tup [.int 0, .int 1, .int 0, .int 1, .int 0, .int 2], .tup [.int 0, .int 1, .int 0, .int 1, .int 1, .int 1], .tup [.int 0, .int 1, .int 0, .int 1, .int 1, .int 2], .tup [.int 0, .int 1, .int 0, .int 1, .int 2, .int 1], .tup [.int 0, .int 1, .int 0, .int 1, .int 2, .int 2], .tup [.int 0, .int 1, .int 0, .int 2, .int 0, .int 2], .tup [.int 0, .int 1, .int 0, .int 2, .int 1, .int 1], .tup [.int 0, .int 1, .int 0, .int 2, .int 1, .int 2], .tup [.int 0, .int 1, .int 0, .int 2, .int 2, .int 1], .tup [.int 0, .int 1, .int 0, .int 2, .int 2, .int 2], .tup [.int 0, .int 1, .int 1, .int 0, .int 1, .int 2], .tup [.int 0, .int 1, .int 1, .int 0, .int 2, .int 1], .tup [.int 0, .int 1, .int 1, .int 0, .int 2, .int 2], .tup [.int 0, .int 1, .int 1, .int 1, .int 0, .int 2], .tup [.int 0, .int 1, .int 1, .int 1, .int 1, .int 1], .tup [.int 0, .int 1, .int 1, .int 1, .int 1, .int 2], .tup [.int 0, .int 1, .int 1, .int 1, .int 2, .int 1], .tup [.int 0, .int 1, .int 1, .int 1, .int 2, .int 2], .tup [.int 0, .int 1, .int 1, .int 2, .int 0, .int 2], .tup [.int 0, .int 1, .int 1, .int 2, .int 1, .int 1], .tup [.int 0, .int 1, .int 1, .int 2, .int 1, .int 2], .tup [.int 0, .int 1, .int 1, .int 2, .int 2, .int 1], .tup [.int 0, .int 1, .int 1, .int 2, .int 2, .int 2], .tup [.int 0, .int 1, .int 2, .int 0, .int 2, .int 1], .tup [.int 0, .int 1, .int 2, .int 0, .int 2, .int 2], .tup [.int 0, .int 1, .int 2, .int 1, .int 0, .int 2], .tup [.int 0, .int 1, .int 2, .int 1, .int 1, .int 1], .tup [.int 0, .int 1, .int 2, .int 1, .int 1, .int 2], .tup [.int 0, .int 1, .int 2, .int 1, .int 2, .int 1], .tup [.int 0, .int 1, .int 2, .int 1, .int 2, .int 2], .tup [.int 0, .int 1, .int 2, .int 2, .int 0, .int 2], .tup [.int 0, .int 1, .int 2, .int 2, .int 1, .int 1], .tup [.int 0, .int 1, .int 2, .int 2, .int 1, .int 2], .tup [.int 0, .int 1, .int 2, .int 2, .int 2, .int 1], .tup [.int 0, .int 1, .int 2, .int 2, .int 2, .int 2], .tup [.int 0, .int 2, .int 0, .int 2, .int 1, .int 1], .tup [.int 0, .int 2, .int 0, .int 2, .int 1, .int 2], .tup [.int 0, .int 2, .int 0, .int 2, .int 2, .int 1], .tup [.int 0, .int 2, .int 0, .int 2, .int 2, .int 2], .tup [.int 0, .int 2, .int 1, .int 0, .int 2, .int 2], .tup [.int 0, .int 2, .int 1, .int 1, .int 1, .int 1], .tup [.int 0, .int 2, .int 1, .int 1, .int 1, .int 2], .tup [.int 0, .int 2, .int 1, .int 1, .int 2, .int 1], .tup [.int 0, .int 2, .int 1, .int 1, .int 2, .int 2], .tup [.int 0, .int 2, .int 1, .int 2, .int 1, .int 1], .tup [.int 0, .int 2, .int 1, .int 2, .int 1, .int 2], .tup [.int 0, .int 2, .int 1, .int 2, .int 2, .int 1], .tup [.int 0, .int 2, .int 1, .int 2, .int 2, .int 2], .tup [.int 0, .int 2, .int 2, .int 1, .int 1, .int 1], .tup [.int 0, .int 2, .int 2, .int 1, .int 1, .int 2], .tup [.int 0, .int 2, .int 2, .int 1, .int 2, .int 1], .tup [.int 0, .int 2, .int 2, .int 1, .int 2, .int 2], .tup [.int 0, .int 2, .int 2, .int 2, .int 1, .int 1], .tup [.int 0, .int 2, .int 2, .int 2, .int 1, .int 2], .tup [.int 0, .int 2, .int 2, .int 2, .int 2, .int 1], .tup [.int 0, .int 2, .int 2, .int 2, .int 2, .int 2], .tup [.int 1, .int 1, .int 1, .int 1, .int 1, .int 2], .tup [.int 1, .int 1, .int 1, .int 1, .int 2, .int 2], .tup [.int 1, .int 1, .int 1, .int 2, .int 1, .int 2], .tup [.int 1, .int 1, .int 1, .int 2, .int 2, .int 2], .tup [.int 1, .int 1, .int 2, .int 1, .int 2, .int 2], .tup [.int 1, .int 1, .int 2, .int 2, .int 1, .int 2], .tup [.int 1, .int 1, .int 2, .int 2, .int 2, .int 2], .tup [.int 1, .int 2, .int 1, .int 2, .int 2, .int 2], .tup [.int 1, .int 2, .int 2, .int 2, .int 2, .int 2]]), (6597, .lst [.tup [.int 0, .int 0, .int 0, .int 0, .int 0, .int 0], .tup [.int 0, .int 0, .int 0, .int 0, .int 0, .int 1], .tup [.int 0, .int 0, .int 0, .int 0, .int 0, .int 2], .tup [.int 0, .int 0, .int 0, .int 0, .int 1, .int 1], .tup [.int 0, .int 0, .int 0, .int 0, .int 1, .int 2], .tup [.int 0, .int 0, .int 0, .int 0, .int 2, .int 2], .tup [.int 0, .int 0, .int 0, .int 1, .int 0, .int 1], .tup [.int 0, .int 0, .int 0, .int 1, .int 0, .int 2], .tup [.int 0, .int 0, .int 0, .int 1, .int 1, .int 1], .tup [.int 0, .int 0, .int 0, .int 1, .int 1, .int 2], .tup [.int 0, .int 0, .int 0, .int 1, .int 2, .int 1], .tup [.int 0, .int 0, .int 0, .int 1, .int 2, .int 2], .tup [.int 0, .int 0, .int 0, .int 2, .int 0, .int 2], .tup [.int 0, .int 0, .int 0, .int 2, .int 1, .int 2], .tup [.int 0, .int 0, .int 0, .int 2, .int 2, .int 2], .tup [.int 0, .int 0, .int 1, .int 0, .int 0, .int 1], .tup [.int 0, .int 0, .int 1, .int 0, .int 0, .int 2], .tup [.int 0, .int 0, .int 1, .int 0, .int 1, .int 1], .tup [.int 0, .int 0, .int 1, .int 0, .int 1, .int 2], .tup [.int 0, .int 0, .int 1, .int 0, .int 2, .int 1], .tup [.int 0, .int 0, .int 1, .int 0, .int 2, .int 2], .tup [.int 0, .int 0, .int 1, .int 1, .int 0, .int 2], .tup [.int 0, .int 0, .int 1, .int 1, .int 1, .int 1], .tup [.int 0, .int 0, .int 1, .int 1, .int 1, .int 2], .tup [.int 0, .int 0, .int 1, .int 1, .int 2, .int 1], .tup [.int 0, .int 0, .int 1, .int 1, .int 2, .int 2], .tup [.int 0, .int 0, .int 1, .int 2, .int 0, .int 2], .tup [.int 0, .int 0, .int 1, .int 2, .int 1, .int 2], .tup [.int 0, .int 0, .int 1, .int 2, .int 2, .int 1], .tup [.int 0, .int 0, .int 1, .int 2, .int 2, .int 2], .tup [.int 0, .int 0, .int 2, .int 0, .int 0, .int 2], .tup [.int 0, .int 0, .int 2, .int 0, .int 1, .int 2], .tup [.int 0, .int 0, .int 2, .int 0, .int 2, .int 2], .tup [.int 0, .int 0, .int 2, .int 1, .int 1, .int 2], .tup [.int 0, .int 0, .int 2, .int 1, .int 2, .int 2], .tup [.int 0, .int 0, .int 2, .int 2, .int 2, .int 2], .tup [.int 0, .int 1, .int 0, .int 1, .int 0, .int 1], .tup [.int 0, .int 1, .int 0, .int 1, .int 0, .int 2], .tup [.int 0, .int 1, .int 0, .int 1, .int 1, .int 1], .tup [.int 0, .int 1, .int 0, .int 1, .int 1, .int 2], .tup [.int 0, .int 1, .int 0, .int 1, .int 2, .int 1], .tup [.int 0, .int 1, .int 0, .int 1, .int 2, .int 2], .tup [.int 0, .int 1, .int 0, .int 2, .int 0, .int 2], .tup [.int 0, .int 1, .int 0, .int 2, .int 1, .int 2], .tup [.int 0, .int 1, .int 0, .int 2, .int 2, .int 2], .tup [.int 0, .int 1, .int 1, .int 0, .int 1, .int 1], .tup [.int 0, .int 1, .int 1, .int 0, .int 1, .int 2], .tup [.int 0, .int 1, .int 1, .int 0, .int 2, .int 2], .tup [.int 0, .int 1, .int 1, .int 1, .int 0, .int 2], .tup [.int 0, .int 1, .int 1, .int 1, .int 1, .int 1], .tup [.int 0, .int 1, .int 1, .int 1, .int 1, .int 2], .tup [.int 0, .int 1, .int 1, .int 1, .int 2, .int 1], .tup [.int 0, .int 1, .int 1, .int 1, .int 2, .int 2], .tup [.int 0, .int 1, .int 1, .int 2, .int 0, .int 2], .tup [.int 0, .int 1, .int 1, .int 2, .int 1, .int 1], .tup [.int 0, .int 1, .int 1, .int 2, .int 1, .int 2], .tup [.int 0, .int 1, .int 1, .int 2, .int 2, .int 1], .tup [.int 0, .int 1, .int 1, .int 2, .int 2, .int 2], .tup [.int 0, .int 1, .int 2, .int 0, .int 1, .int 2], .tup [.int 0, .int 1, .int 2, .int 0, .int 2, .int 1], .tup [.int 0, .int 1, .int 2, .int 0, .int 2, .int 2], .tup [.int 0, .int 1, .int 2, .int 1, .int 0, .int 2], .tup [.int 0, .int 1, .int 2, .int 1, .int 1, .int 2], .tup [.int 0, .int 1, .int 2, .int 1, .int 2, .int 1], .tup [.int 0, .int 1, .int 2, .int 1, .int 2, .int 2], .tup [.int 0, .int 1, .int 2, .int 2, .int 0, .int 2], .tup [.int 0, .int 1, .int 2, .int 2, .int 1, .int 2], .tup [.int 0, .int 1, .int 2, .int 2, .int 2, .int 1], .tup [.int 0, .int 1, .int 2, .int 2, .int 2, .int 2], .tup [.int 0, .int 2, .int 0, .int 2, .int 0, .int 2], .tup [.int 0, .int 2, .int 0, .int 2, .int 1, .int 2], .tup [.int 0, .int 2, .int 0, .int 2, .int 2, .int 2], .tup [.int 0, .int 2, .int 1, .int 1, .int 1, .int 2], .tup [.int 0, .int 2, .int 1, .int 1, .int 2, .int 2], .tup [.int 0, .int 2, .int 1, .int 2, .int 1, .int 2], .tup [.int 0, .int 2, .int 1, .int 2, .int 2, .int 2], .tup [.int 0, .int 2, .int 2, .int 0, .int 2, .int 2], .tup [.int 0, .int 2, .int 2, .int 1, .int 2, .int 2], .tup [.int 0, .int 2, .int 2, .int 2, .int 2, .int 2], .tup [.int 1, .int 1, .int 1, .int 1, .int 1, .int 1], .tup [.int 1, .int 1, .int 1, .int 1, .int 1, .int 2], .tup [.int 1, .int 1, .int 1, .int 1, .int 2, .int 2], .tup [.int 1, .int 1, .int 1, .int 2, .int 1, .int 2], .tup [.int 1, .int 1, .int 1, .int 2, .int 2, .int 2], .tup [.int 1, .int 1, .int 2, .int 1, .int 1, .int 2], .tup [.int 1, .int 1, .int 2, .int 1, .int 2, .int 2], .tup [.int 1, .int 1, .int 2, .int 2, .int 2, .int 2], .tup [.int 1, .int 2, .int 1, .int 2, .int 1, .int 2], .tup [.int 1, .int 2, .int 1, .int 2, .int 2, .int 2], .tup [.int 1, .int 2, .int 2, .int 1, .int 2, .int 2], .tup [.int 1, .int 2, .int 2, .int 2, .int 2, .int 2]]), (6592, .lst [.tup [.int 0, .int 0, .int 0, .int 0, .int 0, .int 0], .tup [.int 0, .int 0, .int 0, .int 0, .int 0, .int 1], .tup [.int 0, .int 0, .int 0, .int 0, .int 0, .int 2], .tup [.int 0, .int 0, .int 0, .int 0, .int 1, .int 1], .tup [.int 0, .int 0, .int 0, .int 0, .int 1, .int 2], .tup [.int 0, .int 0, .int 0, .int 0, .int 2, .int 1], .tup [.int 0, .int 0, .int 0, .int 0, .int 2, .int 2], .tup [.int 0, .int 0, .int 0, .int 1, .int 0, .int 1], .tup [.int 0, .int 0, .int 0, .int 1, .int 0, .int 2], .tup [.int 0, .int 0, .int 0, .int 1, .int 1, .int 1], .tup [.int 0, .int 0, .int 0, .int 1, .int 1, .int 2], .tup [.int 0, .int 0, .int 0, .int 1, .int 2, .int 1], .tup [.int 0, .int 0, .int 0, .int 1, .int 2, .int 2], .tup [.int 0, .int 0, .int 0, .int 2, .int 0, .int 1], .tup [.int 0, .int 0, .int 0, .int 2, .int 0, .int 2], .tup [.int 0, .int 0, .int 0, .int 2, .int 1, .int 1], .tup [.int 0, .int 0, .int 0, .int 2, .int 1, .int 2], .tup [.int 0, .int 0, .int 0, .int 2, .int 2, .int 1], .tup [.int 0, .int 0, .int 0, .int 2, .int 2, .int 2], .tup [.int 0, .int 0, .int 1, .int 0, .int 0, .int 1], .tup [.int 0, .int 0, .int 1, .int 0, .int 0, .int 2], .tup [.int 0, .int 0, .int 1, .int 0, .int 1, .int 1], .tup [.int 0, .int 0, .int 1, .int 0, .int 1, .int 2], .tup [.int 0, .int 0, .int 1, .int 0, .int 2, .int 1], .tup [.int 0, .int 0, .int 1, .int 0, .int 2, .int 2], .tup [.int 0, .int 0, .int 1, .int 1, .int 0, .int 1], .tup [.int 0, .int 0, .int 1, .int 1, .int 0, .int 2], .tup [.int 0, .int 0, .int 1, .int 1, .int 1, .int 1], .tup [.int 0, .int 0, .int 1, .int 1, .int 1, .int 2], .tup [.int 0, .int 0, .int 1, .int 1, .int 2, .int 1], .tup [.int 0, .int 0, .int 1, .int 1, .int 2, .int 2], .tup [.int 0, .int 0, .int 1, .int 2, .int 0, .int 1], .tup [.int 0, .int 0, .int 1, .int 2, .int 0, .int 2], .tup [.int 0, .int 0, .int 1, .int 2, .int 1, .int 1], .tup [.int 0, .int 0, .int 1, .int 2, .int 1, .int 2], .tup [.int 0, .int 0, .int 1, .int 2, .int 2, .int 1], .tup [.int 0, .int 0, .int 1, .int 2, .int 2, .int 2], .tup [.int 0, .int 0, .int 2, .int 0, .int 0, .int 2], .tup [.int 0, .int 0, .int 2, .int 0, .int 1, .int 1], .tup [.int 0, .int 0, .int 2, .int 0, .int 1, .int 2], .tup [.int 0, .int 0, .int 2, .int 0, .int 2, .int 1], .tup [.int 0, .int 0, .int 2, .int 0, .int 2, .int 2], .tup [.int 0, .int 0, .int 2, .int 1, .int 0, .int 1], .tup [.int 0, .int 0, .int 2, .int 1, .int 0, .int 2], .tup [.int 0, .int 0, .int 2, .int 1, .int 1, .int 1], .tup [.int 0, .int 0, .int 2, .int 1, .int 1, .int 2], .tup [.int 0, .int 0, .int 2, .int 1, .int 2, .int 1], .tup [.int 0, .int 0, .int 2, .int 1, .int 2, .int 2], .tup [.int 0, .int 0, .int 2, .int 2, .int 0, .int 1], .tup [.int 0, .int 0, .int 2, .int 2, .int 0, .int 2], .tup [.int 0, .int 0, .int 2, .int 2, .int 1, .int 1], .tup [.int 0, .int 0, .int 2, .int 2, .int 1, .int 2], .tup [.int 0, .int 0, .int 2, .int 2, .int 2, .int 1], .tup [.int 0, .int 0, .int 2, .int 2, .int 2, .int 2], .tup [.int 0, .int 1, .int 0, .int 1, .int 0, .int 1], .tup [.int 0, .int 1, .int 0, .int 1, .int 0, .int 2], .tup [.int 0, .int 1, .int 0, .int 1, .int 1, .int 1], .tup [.int 0, .int 1, .int 0, .int 1, .int 1, .int 2], .tup [.int 0, .int 1, .int 0, .int 1, .int 2, .int 1], .tup [.int 0, .int 1, .int 0, .int 1, .int 2, .int 2], .tup [.int 0, .int 1, .int 0, .int 2, .int 0, .int 2], .tup [.int 0, .int 1, .int 0, .int 2, .int 1, .int 1], .tup [.int 0, .int 1, .int 0, .int 2, .int 1, .int 2], .tup [.int 0, .int 1, .int 0, .int 2, .int 2, .int 1], .tup [.int 0, .int 1, .int 0, .int 2, .int 2, .int 2], .tup [.int 0, .int 1, .int 1, .int 0, .int 1, .int 1], .tup [.int 0, .int 1, .int 1, .int 0, .int 1, .int 2], .tup [.int 0, .int 1, .int 1, .int 0, .int 2, .int 1], .tup [.int 0, .int 1, .int 1, .int 0, .int 2, .int 2], .tup [.int 0, .int 1, .int 1, .int 1, .int 0, .int 2], .tup [.int 0, .int 1, .int 1, .int 1, .int 1, .int 1], .tup [.int 0, .int 1, .int 1, .int 1, .int 1, .int 2], .tup [.int 0, .int 1, .int 1, .int 1, .int 2, .int 1], .tup [.int 0, .int 1, .int 1, .int 1, .int 2, .int 2], .tup [.int 0, .int 1, .int 1, .int 2, .int 0, .int 2], .tup [.int 0, .int 1, .int 1, .int 2, .int 1, .int 1], .tup [.int 0, .int 1, .int 1, .int 2, .int 1, .int 2], .tup [.int 0, .int 1, .int 1, .int 2, .int 2, .int 1], .tup [.int 0, .int 1, .int 1, .int 2, .int 2, .int 2], .tup [.int 0, .int 1, .int 2, .int 0, .int 1, .int 2], .tup [.int 0, .int 1, .int 2, .int 0, .int 2, .int 1], .tup [.int 0, .int 1, .int 2, .int 0, .int 2, .int 2], .tup [.int 0, .int 1, .int 2, .int 1, .int 0, .int 2], .tup [.int 0, .int 1, .int 2, .int 1, .int 1, .int 1], .tup [.int 0, .int 1, .int 2, .int 1, .int 1, .int 2], .tup [.int 0, .int 1, .int 2, .int 1, .int 2, .int 1], .tup [.int 0, .int 1, .int 2, .int 1, .int 2, .int 2], .tup [.int 0, .int 1, .int 2, .int 2, .int 0, .int 2], .tup [.int 0, .int 1, .int 2, .int 2, .int 1, .int 1], .tup [.int 0, .int 1, .int 2, .int 2, .int 1, .int 2], .tup [.int 0, .int 1, .int 2, .int 2, .int 2, .int 1], .tup [.int 0, .int 1, .int 2, .int 2, .int 2, .int 2], .tup [.int 0, .int 2, .int 0, .int 2, .int 0, .int 2], .tup [.int 0, .int 2, .int 0, .int 2, .int 1, .int 1], .tup [.int 0, .int 2, .int 0, .int 2, .int 1, .int 2], .tup [.int 0, .int 2, .int 0, .int 2, .int 2, .int 1], .tup [.int 0, .int 2, .int 0, .int 2, .int 2, .int 2], .tup [.int 0, .int 2, .int 1, .int 0, .int 2, .int 1], .tup [.int 0, .int 2, .int 1, .int 0, .int 2, .int 2], .tup [.int 0, .int 2, .int 1, .int 1, .int 1, .int 1], .tup [.int 0, .int 2, .int 1, .int 1, .int 1, .int 2], .tup [.int 0, .int 2, .int 1, .int 1, .int 2, .int 1], .tup [.int 0, .int 2, .int 1, .int 1, .int 2, .int 2], .tup [.int 0, .int 2, .int 1, .int 2, .int 1, .int 1], .tup [.int 0, .int 2, .int 1, .int 2, .int 1, .int 2], .tup [.int 0, .int 2, .int 1, .int 2, .int 2, .int 1], .tup [.int 0, .int 2, .int 1, .int 2, .int 2, .int 2], .tup [.int 0, .int 2, .int 2, .int 0, .int 2, .int 2], .tup [.int 0, .int 2, .int 2, .int 1, .int 1, .int 1], .tup [.int 0, .int 2, .int 2, .int 1, .int 1, .int 2], .tup [.int 0, .int 2, .int 2, .int 1, .int 2, .int 1], .tup [.int 0, .int 2, .int 2, .int 1, .int 2, .int 2], .tup [.int 0, .int 2, .int 2, .int 2, .int 1, .int 1], .tup [.int 0, .int 2, .int 2, .int 2, .int 1, .int 2], .tup [.int 0, .int 2, .int 2, .int 2, .int 2, .int 1], .tup [.int 0, .int 2, .int 2, .int 2, .int 2, .int 2], .tup [.int 1, .int 1, .int 1, .int 1, .int 1, .int 1], .tup [.int 1, .int 1, .int 1, .int 1, .int 1, .int 2], .tup [.int 1, .int 1, .int 1, .int 1, .int 2, .int 2], .tup [.int 1, .int 1, .int 1, .int 2, .int 1, .int 2], .tup [.int 1, .int 1, .int 1, .int 2, .int 2, .int 2], .tup [.int 1, .int 1, .int 2, .int 1, .int 1, .int 2], .tup [.int 1, .int 1, .int 2, .int 1, .int 2, .int 2], .tup [.int 1, .int 1, .int 2, .int 2, .int 1, .int 2], .tup [.int 1, .int 1, .int 2, .int 2, .int 2, .int 2], .tup [.int 1, .int 2, .int 1, .int 2, .int 1, .int 2], .tup [.int 1, .int 2, .int 1, .int 2, .int 2, .int 2], .tup [.int 1, .int 2, .int 2, .int 1, .int 2, .int 2], .tup [.int 1, .int 2, .int 2, .int 2, .int 2, .int 2]]), (741, .frz ROWS6), (0, .dice)]⟩)⟩
def P_4_3 : Pc := ⟨745, some (741, ROWS6), ROWS6.drop 610, ([none, some (.ref 0), some (.int 6), some (.int 3), some (.ref 741), none, none, some (.ref 8056), some (.ref 8061), some (.ref 8064), none, none, none, none, none, none, none], ⟨8065, [(8064, .lst [.tup [.int 0, .int 0, .int 0, .int 0, .int 0, .int 1], .tup [.int 0, .int 0, .int 0, .int 0, .int 0, .int 2], .tup [.int 0, .int 0, .int 0, .int 0, .int 1, .int 1], .tup [.int 0, .int 0, .int 0, .int 0, .int 1, .int 2], .tup [.int 0, .int 0, .int 0, .int 0, .int 2, .int 1], .tup [.int 0, .int 0, .int 0, .int 0, .int 2, .int 2], .tup [.int 0, .int 0, .int 0, .int 1, .int 0, .int 1], .tup [.int 0, .int 0, .int 0, .int 1, .int 0, .int 2], .tup [.int 0, .int 0, .int 0, .int 1, .int 1, .int 1], .tup [.int 0, .int 0, .int 0, .int 1, .int 1, .int 2], .tup [.int 0, .int 0, .int 0, .int 1, .int 2, .int 1], .tup [.int 0, .int 0, .int 0, .int 1, .int 2, .int 2], .tup [.int 0, .int 0, .int 0, .int 2, .int 0, .int 1], .tup [.int 0, .int 0, .int 0, .int 2, .int 0, .int 2], .tup [.int 0, .int 0, .int 0, .int 2, .int 1, .int 1], .tup [.int 0, .int 0, .int 0, .int 2, .int 1, .int 2], .tup [.int 0, .int 0, .int 0, .int 2, .int 2, .int 1], .tup [.int 0, .int 0, .int 0, .int 2, .int 2, .int 2], .tup [.int 0, .int 0, .int 1, .int 0, .int 0, .int 2], .tup [.int 0, .int 0, .int 1, .int 0, .int 1, .int 1], .tup [.int 0, .int 0, .int 1, .int 0, .int 1, .int 2], .tup [.int 0, .int 0, .int 1, .int 0, .int 2, .int 1], .tup [.int 0, .int 0, .int 1, .int 0, .int 2, .int 2], .tup [.int 0, .int 0, .int 1, .int 1, .int 0, .int 1], .tup [.int 0, .int 0, .int 1, .int 1, .int 0, .int 2], .tup [.int 0, .int 0, .int 1, .int 1, .int 1, .int 1], .tup [.int 0, .int 0, .int 1, .int 1, .int 1, .int 2], .tup [.int 0, .int 0, .int 1, .int 1, .int 2, .int 1], .tup [.int 0, .int 0, .int 1, .int 1, .int 2, .int 2], .tup [.int 0, .int 0, .int 1, .int 2, .int 0, .int 1], .tup [.int 0, .int 0, .int 1, .int 2, .int 0, .int 2], .tup [.int 0, .int 0, .int 1, .int 2, .int 1, .int 1], .tup [.int 0, .int 0, .int 1, .int 2, .int 1, .int 2], .tup [.int 0, .int 0, .int 1, .int 2, .int 2, .int 1], .tup [.int 0, .int 0, .int 1, .int 2, .int 2, .int 2], .tup [.int 0, .int 0, .int 2, .int 0, .int 1, .int 1], .tup [.int 0, .int 0, .int 2, .int 0, .int 1, .int 2], .tup [.int 0, .int 0, .int 2, .int 0, .int 2, .int 1], .tup [.int 0, .int 0, .int 2, .int 0, .int 2, .int 2], .tup [.int 0, .int 0, .int 2, .int 1, .int 0, .int 1], .tup [.int 0, .int 0, .int 2, .int 1, .int 0, .int 2], .tup [.int 0, .int 0, .int 2, .int 1, .int 1, .int 1], .tup [.int 0, .int 0, .int 2, .int 1, .int 1, .int 2], .tup [.int 0, .int 0, .int 2, .int 1, .int 2, .int 1], .tup [.int 0, .int 0, .int 2, .int 1, .int 2, .int 2], .tup [.int 0, .int 0, .int 2, .int 2, .int 0, .int 1], .tup [.int 0, .int 0, .int 2, .int 2, .int 0, .int 2], .tup [.int 0, .int 0, .int 2, .int 2, .int 1, .int 1], .tup [.int 0, .int 0, .int 2, .int 2, .int 1, .int 2], .tup [.int 0, .int 0, .int 2, .int 2, .int 2, .int 1], .tup [.int 0, .int 0, .int 2, .int 2, .int 2, .int 2], .tup [.int 0, .int 1, .int 0, .int 1, .int 0, .int 2], .tup [.int 0, .int 1, .int 0, .int 1, .int 1, .int 1], .tup [.int 0, .int 1, .int 0, .int 1, .int 1, .int 2], .tup [.int 0, .int 1, .int 0, .int 1, .int 2, .int 1], .tup [.int 0, .int 1, .int 0, .int 1, .int 2, .int 2], .tup [.int 0, .int 1, .int 0, .int 2, .int 0, .int 2], .tup [.int 0, .int 1, .int 0, .int 2, .int 1, .int 1], .tup [.int 0, .int 1, .int 0, .int 2, .int 1, .int 2], .tup [.int 0, .int 1, .int 0, .int 2, .int 2, .int 1], .tup [.int 0, .int 1, .int 0, .int 2, .int 2, .int 2], .tup [.int 0, .int 1, .int 1, .int 0, .int 1, .int 2], .tup [.int 0, .int 1, .int 1, .int 0, .int 2, .int 1], .tup [.int 0, .int 1, .int 1, .int 0, .int 2, .int 2], .tup [.int 0, .int 1, .int 1, .int 1, .int 0, .int 2], .tup [.int 0, .int 1, .int 1, .int 1, .int 1, .int 1], .tup [.int 0, .int 1, .int 1, .int 1, .int 1, .int 2], .tup [.int 0, .int 1, .int 1, .int 1, .int 2, .int 1], .tup [.int 0, .int 1, .int 1, .int 1, .int 2, .int 2], .tup [.int 0, .int 1, .int 1, .int 2, .int 0, .int 2], .tup [.int 0, .int 1, .int 1, .int 2, .int 1, .int 1], .tup [.int 0, .int 1, .int 1, .int 2, .int 1, .int 2], .tup [.int 0, .int 1, .int 1, .int 2, .int 2, .int 1], .tup [.int 0, .int 1, .int 1, .int 2, .int 2, .int 2], .tup [.int 0, .int 1, .int 2, .int 0, .int 2, .int 1], .tup [.int 0, .int 1, .int 2, .int 0, .int 2, .int 2], .tup [.int 0, .int 1, .int 2, .int 1, .int 0, .int 2], .tup [.int 0, .int 1, .int 2, .int 1, .int 1, .int 1], .tup [.int 0, .int 1, .int 2, .int 1, .int 1, .int 2], .tup [.int 0, .int 1, .int 2, .int 1, .int 2, .int 1], .tup [.int 0, .int 1, .int 2, .int 1, .int 2, .int 2], .tup [.int 0, .int 1, .int 2, .int 2, .int 0, .int 2], .tup [.int 0, .int 1, .int 2, .int 2, .int 1, .int 1], .tup [.int 0, .int 1, .int 2, .int 2, .int 1, .int 2], .tup [.int 0, .int 1, .int 2, .int 2, .int 2, .int 1], .tup [.int 0, .int 1, .int 2, .int 2, .int 2, .int 2], .tup [.int 0, .int 2, .int 0, .int 2, .int 1, .int 1], .tup [.int 0, .int 2, .int 0, .int 2, .int 1, .int 2], .tup [.int 0, .int 2, .int 0, .int 2, .int 2, .int 1], .tup [.int 0, .int 2, .int 0, .int 2, .int 2, .int 2], .tup [.int 0, .int 2, .int 1, .int 0, .int 2, .int 2], .tup [.int 0, .int 2, .int 1, .int 1, .int 1, .int 1], .tup [.int 0, .int 2, .int 1, .int 1, .int 1, .int 2], .tup [.int 0, .int 2, .int 1, .int 1, .int 2, .int 1], .tup [.int 0, .int 2, .int 1, .int 1, .int 2, .int 2], .tup [.int 0, .int 2, .int 1, .int 2, .int 1, .int 1], .tup [.int 0, .int 2, .int 1, .int 2, .int 1, .int 2], .tup [.int 0, .int 2, .int 1, .int 2, .int 2, .int 1], .tup [.int 0, .int 2, .int 1, .int 2, .int 2, .int 2], .tup [.int 0, .int 2, .int 2, .int 1, .int 1, .int 1], .tup [.int 0, .int 2, .int 2, .int 1, .int 1, .int 2], .tup [.int 0, .int 2, .int 2, .int 1, .int 2, .int 1], .tup [.int 0, .int 2, .int 2, .int 1, .int 2, .int 2], .tup [.int 0, .int 2, .int 2, .int 2, .int 1, .int 1], .tup [.int 0, .int 2, .int 2, .int 2, .int 1, .int 2], .tup [.int 0, .int 2, .int 2, .int 2, .int 2, .int 1], .tup [.int 0, .int 2, .int 2, .int 2, .int 2, .int 2], .tup [.int 1, .int 1, .int 1, .int 1, .int 1, .int 2], .tup [.int 1, .int 1, .int 1, .int 1, .int 2, .int 2], .tup [.int 1, .int 1, .int 1, .int 2, .int 1, .int 2], .tup [.int 1, .int 1, .int 1, .int 2, .int 2, .int 2], .tup [.int 1, .int 1, .int 2, .int 1, .int 2, .int 2], .tup [.int 1, .int 1, .int 2, .int 2, .int 1, .int 2], .tup [.int 1, .int 1, .int 2, .int 2, .int 2, .int 2], .tup [.int 1, .int 2, .int 1, .int 2, .int 2, .int 2], .tup [.int 1, .int 2, .int 2, .int 2, .int 2, .int 2]]), (8061, .lst [.tup [.int 0, .int 0, .int 0, .int 0, .int 0, .int 0], .tup [.int 0, .int 0, .int 0, .int 0, .int 0, .int 1], .tup [.int 0, .int 0, .int 0, .int 0, .int 0, .int 2], .tup [.int 0, .int 0, .int 0, .int 0, .int 1, .int 1], .tup [.int 0, .int 0, .int 0, .int 0, .int 1, .int 2], .tup [.int 0, .int 0, .int 0, .int 0, .int 2, .int 2], .tup [.int 0, .int 0, .int 0, .int 1, .int 0, .int 1], .tup [.int 0, .int 0, .int 0, .int 1, .int 0, .int 2], .tup [.int 0, .int 0, .int 0, .int 1, .int 1, .int 1], .tup [.int 0, .int 0, .int 0, .int 1, .int 1, .int 2], .tup [.int 0, .int 0, .int 0, .int 1, .int 2, .int 1], .tup [.int 0, .int 0, .int 0, .int 1, .int 2, .int 2], .tup [.int 0, .int 0, .int 0, .int 2, .int 0, .int 2], .tup [.int 0, .int 0, .int 0, .int 2, .int 1, .int 2], .tup [.int 0, .int 0, .int 0, .int 2, .int 2, .int 2], .tup [.int 0, .int 0, .int 1, .int 0, .int 0, .int 1], .tup [.int 0, .int 0, .int 1, .int 0, .int 0, .int 2], .tup [.int 0, .int 0, .int 1, .int 0, .int 1, .int 1], .tup [.int 0, .int 0, .int 1, .int 0, .int 1, .int 2], .tup [.int 0, .int 0, .int 1, .int 0, .int 2, .int 1], .tup [.int 0, .int 0, .int 1, .int 0, .int 2, .int 2], .tup [.int 0, .int 0, .int 1, .int 1, .int 0, .int 2], .tup [.int 0, .int 0, .int 1, .int 1, .int 1, .int 1], .tup [.int 0, .int 0, .int 1, .int 1, .int 1, .int 2], .tup [.int 0, .int 0, .int 1, .int 1, .int 2, .int 1], .tup [.int 0, .int 0, .int 1, .int 1, .int 2, .int 2], .tup [.int 0, .int 0, .int 1, .int 2, .int 0, .int 2], .tup [.int 0, .int 0, .int 1, .int 2, .int 1, .int 2], .tup [.int 0, .int 0, .int 1, .int 2, .int 2, .int 1], .tup [.int 0, .int 0, .int 1, .int 2, .int 2, .int 2], .tup [.int 0, .int 0, .int 2, .int 0, .int 0, .int 2], .tup [.int 0, .int 0, .int 2, .int 0, .int 1, .int 2], .tup [.int 0, .int 0, .int 2, .int 0, .int 2, .int 2], .tup [.int 0, .int 0, .int 2, .int 1, .int 1, .int 2], .tup [.int 0, .int 0, .int 2, .int 1, .int 2, .int 2], .tup [.int 0, .int 0, .int 2, .int 2, .int 2, .int 2], .tup [.int 0, .int 1, .int 0, .int 1, .int 0, .int 1], .tup [.int 0, .int 1, .int 0, .int 1, .int 0, .int 2], .tup [.int 0, .int 1, .int 0, .int 1, .int 1, .int 1], .tup [.int 0, .int 1, .int 0, .int 1, .int 1, .int 2], .tup [.int 0, .int 1, .int 0, .int 1, .int 2, .int 1], .tup [.int 0, .int 1, .int 0, .int 1, .int 2, .int 2], .tup [.int 0, .int 1, .int 0, .int 2, .int 0, .int 2], .tup [.int 0, .int 1, .int 0, .int 2, .int 1, .int 2], .tup [.int 0, .int 1, .int 0, .int 2, .int 2, .int 2], .tup [.int 0, .int 1, .int 1, .int 0, .int 1, .int 1], .tup [.int 0, .int 1, .int 1, .int 0, .int 1, .int 2], .tup [.int 0, .int 1, .int 1, .int 0, .int 2, .int 2], .tup [.int 0, .int 1, .int 1, .int 1, .int 0, .int 2], .tup [.int 0, .int 1, .int 1, .int 1, .int 1, .int 1], .tup [.int 0, .int 1, .int 1, .int 1, .int 1, .int 2], .tup [.int 0, .int 1, .int 1, .int 1, .int 2, .int 1], .tup [.int 0, .int 1, .int 1, .int 1, .int 2, .int 2], .tup [.int 0, .int 1, .int 1, .int 2, .int 0, .int 2], .tup [.int 0, .int 1, .int 1, .int 2, .int 1, .int 1], .tup [.int 0, .int 1, .int 1, .int 2, .int 1, .int 2], .tup [.int 0, .int 1, .int 1, .int 2, .int 2, .int 1], .tup [.int 0, .int 1, .int 1, .int 2, .int 2, .int 2], .tup [.int 0, .int 1, .int 2, .int 0, .int 1, .int 2], .tup [.int 0, .int 1, .int 2, .int 0, .int 2, .int 1], .tup [.int 0, .int 1, .int 2, .int 0, .int 2, .int 2], .tup [.int 0, .int 1, .int 2, .int 1, .int 0, .int 2], .tup [.int 0, .int 1, .int 2, .int 1, .int 1, .int 2], .tup [.int 0, .int 1, .int 2, .int 1, .int 2, .int 1], .tup [.int 0, .int 1, .int 2, .int 1, .int 2, .int 2], .tup [.int 0, .int 1, .int 2, .int 2, .int 0, .int 2], .tup [.int 0, .int 1, .int 2, .int 2, .int 1, .int 2], .tup [.int 0, .int 1, .int 2, .int 2, .int 2, .int 1], .tup [.int 0, .int 1, .int 2, .int 2, .int 2, .int 2], .tup [.int 0, .int 2, .int 0, .int 2, .int 0, .int 2], .tup [.int 0, .int 2, .int 0, .int 2, .int 1, .int 2], .tup [.int 0, .int 2, .int 0, .int 2, .int 2, .int 2], .tup [.int 0, .int 2, .int 1, .int 1, .int 1, .int 2], .tup [.int 0, .int 2, .int 1, .int 1, .int 2, .int 2], .tup [.int 0, .int 2, .int 1, .int 2, .int 1, .int 2], .tup [.int 0, .int 2, .int 1, .int 2, .int 2, .int 2], .tup [.int 0, .int 2, .int 2, .int 0, .int 2, .int 2], .tup [.int 0, .int 2, .int 2, .int 1, .int 2, .int 2], .tup [.int 0, .int 2, .int 2, .int 2, .int 2, .int 2], .tup [.int 1, .int 1, .int 1, .int 1, .int 1, .int 1], .tup [.int 1, .int 1, .int 1, .int 1, .int 1, .int 2], .tup [.int 1, .int 1, .int 1, .int 1, .int 2, .int 2], .tup [.int 1, .int 1, .int 1, .int 2, .int 1, .int 2], .tup [.int 1, .int 1, .int 1, .int 2, .int 2, .int 2], .tup [.int 1, .int 1, .int 2, .int 1, .int 1, .int 2], .tup [.int 1, .int 1, .int 2, .int 1, .int 2, .int 2], .tup [.int 1, .int 1, .int 2, .int 2, .int 2, .int 2], .tup [.int 1, .int 2, .int 1, .int 2, .int 1, .int 2], .tup [.int 1, .int 2, .int 1, .int 2, .int 2, .int 2], .tup [.int 1, .int 2, .int 2, .int 1, .int 2, .int 2], .tup [.int 1, .int 2, .int 2, .int 2, .int 2, .int 2]]), (8056, .lst [.tup [.int 0, .int 0, .int 0, .int 0, .int 0, .int 0], .tup [.int 0, .int 0, .int 0, .int 0, .int 0, .int 1], .tup [.int 0, .int 0, .int 0, .int 0, .int 0, .int 2], .tup [.int 0, .int 0, .int 0, .int 0, .int 1, .int 1], .tup [.int 0, .int 0, .int 0, .int 0, .int 1, .int 2], .tup [.int 0, .int 0, .int 0, .int 0, .int 2, .int 1], .tup [.int 0, .int 0, .int 0, .int 0, .int 2, .int 2], .tup [.int 0, .int 0, .int 0, .int 1, .int 0, .int 1], .tup [.int 0, .int 0, .int 0, .int 1, .int 0, .int 2], .tup [.int 0, .int 0, .int 0, .int 1, .int 1, .int 1], .tup [.int 0, .int 0, .int 0, .int 1, .int 1, .int 2], .tup [.int 0, .int 0, .int 0, .int 1, .int 2, .int 1], .tup [.int 0, .int 0, .int 0, .int 1, .int 2, .int 2], .tup [.int 0, .int 0, .int 0, .int 2, .int 0, .int 1], .tup [.int 0, .int 0, .int 0, .int 2, .int 0, .int 2], .tup [.int 0, .int 0, .int 0, .int 2, .int 1, .int 1], .tup [.int 0, .int 0, .int 0, .int 2, .int 1, .int 2], .tup [.int 0, .int 0, .int 0, .int 2, .int 2, .int 1], .tup [.int 0, .int 0, .int 0, .int 2, .int 2, .int 2], .tup [.int 0, .int 0, .int 1, .int 0, .int 0, .int 1], .tup [.int 0, .int 0, .int 1, .int 0, .int 0, .int 2], .tup [.int 0, .int 0, .int 1, .int 0, .int 1, .int 1], .tup [.int 0, .int 0, .int 1, .int 0, .int 1, .int 2], .tup [.int 0, .int 0, .int 1, .int 0, .int 2, .int 1], .tup [.int 0, .int 0, .int 1, .int 0, .int 2, .int 2], .tup [.int 0, .int 0, .int 1, .int 1, .int 0, .int 1], .tup [.int 0, .int 0, .int 1, .int 1, .int 0, .int 2], .tup [.int 0, .int 0, .int 1, .int 1, .int 1, .int 1], .tup [.int 0, .int 0, .int 1, .int 1, .int 1, .int 2], .tup [.int 0, .int 0, .int 1, .int 1, .int 2, .int 1], .tup [.int 0, .int 0, .int 1, .int 1, .int 2, .int 2], .tup [.int 0, .int 0, .int 1, .int 2, .int 0, .int 1], .tup [.int 0, .int 0, .int 1, .int 2, .int 0, .int 2], .tup [.int 0, .int 0, .int 1, .int 2, .int 1, .int 1], .tup [.int 0, .int 0, .int 1, .int 2, .int 1, .int 2], .tup [.int 0, .int 0, .int 1, .int 2, .int 2, .int 1], .tup [.int 0, .int 0, .int 1, .int 2, .int 2, .int 2], .tup [.int 0, .int 0, .int 2, .int 0, .int 0, .int 2], .tup [.int 0, .int 0, .int 2, .int 0, .int 1, .int 1], .tup [.int 0, .int 0, .int 2, .int 0, .int 1, .int 2], .tup [.int 0, .int 0, .int 2, .int 0, .int 2, .int 1], .tup [.int 0, .int 0, .int 2, .int 0, .int 2, .int 2], .tup [.int 0, .int 0, .int 2, .int 1, .int 0, .int 1], .tup [.int 0, .int 0, .int 2, .int 1, .int 0, .int 2], .tup [.int 0, .int 0, .int 2, .int 1, .int 1, .int 1], .tup [.int 0, .int 0, .int 2, .int 1, .int 1, .int 2], .tup [.int 0, .int 0, .int 2, .int 1, .int 2, .int 1], .tup [.int 0, .int 0, .int 2, .int 1, .int 2, .int 2], .tup [.int 0, .int 0, .int 2, .int 2, .int 0, .int 1], .tup [.int 0, .int 0, .int 2, .int 2, .int 0, .int 2], .tup [.int 0, .int 0, .int 2, .int 2, .int 1, .int 1], .tup [.int 0, .int 0, .int 2, .int 2, .int 1, .int 2], .tup [.int 0, .int 0, .int 2, .int 2, .int 2, .int 1], .tup [.int 0, .int 0, .int 2, .int 2, .int 2, .int 2], .tup [.int 0, .int 1, .int 0, .int 1, .int 0, .int 1], .tup [.int 0, .int 1, .int 0, .int 1, .int 0, .int 2], .tup [.int 0, .int 1, .int 0, .int 1, .int 1, .int 1], .tup [.int 0, .int 1, .int 0, .int 1, .int 1, .int 2], .tup [.int 0, .int 1, .int 0, .int 1, .int 2, .int 1], .tup [.int 0, .int 1, .int 0, .int 1, .int 2, .int 2], .tup [.int 0, .int 1, .int 0, .int 2, .int 0, .int 2], .tup [.int 0, .int 1, .int 0, .int 2, .int 1, .int 1], .tup [.int 0, .int 1, .int 0, .int 2, .int 1, .int 2], .tup [.int 0, .int 1, .int 0, .int 2, .int 2, .int 1], .tup [.int 0, .int 1, .int 0, .int 2, .int 2, .int 2], .tup [.int 0, .int 1, .int 1, .int 0, .int 1, .int 1], .tup [.int 0, .int 1, .int 1, .int 0, .int 1, .int 2], .tup [.int 0, .int 1, .int 1, .int 0, .int 2, .int 1], .tup [.int 0, .int 1, .int 1, .int 0, .int 2, .int 2], .tup [.int 0, .int 1, .int 1, .int 1, .int 0, .int 2], .tup [.int 0, .int 1, .int 1, .int 1, .int 1, .int 1], .tup [.int 0, .int 1, .int 1, .int 1, .int 1, .int 2], .tup [.int 0, .int 1, .int 1, .int 1, .int 2, .int 1], .tup [.int 0, .int 1, .int 1, .int 1, .int 2, .int 2], .tup [.int 0, .int 1, .int 1, .int 2, .int 0, .int 2], .tup [.int 0, .int 1, .int 1, .int 2, .int 1, .int 1], .tup [.int 0, .int 1, .int 1, .int 2, .int 1, .int 2], .tup [.int 0, .int 1, .int 1, .int 2, .int 2, .int 1], .tup [.int 0, .int 1, .int 1, .int 2, .int 2, .int 2], .tup [.int 0, .int 1, .int 2, .int 0, .int 1, .int 2], .tup [.int 0, .int 1, .int 2, .int 0, .int 2, .int 1], .tup [.int 0, .int 1, .int 2, .int 0, .int 2, .int 2], .tup [.int 0, .int 1, .int 2, .int 1, .int 0, .int 2], .tup [.int 0, .int 1, .int 2, .int 1, .int 1, .int 1], .tup [.int 0, .int 1, .int 2, .int 1, .int 1, .int 2], .tup [.int 0, .int 1, .int 2, .int 1, .int 2, .int 1], .tup [.int 0, .int 1, .int 2, .int 1, .int 2, .int 2], .tup [.int 0, .int 1, .int 2, .int 2, .int 0, .int 2], .tup [.int 0, .int 1, .int 2, .int 2, .int 1, .int 1], .tup [.int 0, .int 1, .int 2, .int 2, .int 1, .int 2], .tup [.int 0, .int 1, .int 2, .int 2, .int 2, .int 1], .tup [.int 0, .int 1, .int 2, .int 2, .int 2, .int 2], .tup [.int 0, .int 2, .int 0, .int 2, .int 0, .int 2], .tup [.int 0, .int 2, .int 0, .int 2, .int 1, .int 1], .tup [.int 0, .int 2, .int 0, .int 2, .int 1, .int 2], .tup [.int 0, .int 2, .int 0, .int 2, .int 2, .int 1], .tup [.int 0, .int 2, .int 0, .int 2, .int 2, .int 2], .tup [.int 0, .int 2, .int 1, .int 0, .int 2, .int 1], .tup [.int 0, .int 2, .int 1, .int 0, .int 2, .int 2], .tup [.int 0, .int 2, .int 1, .int 1, .int 1, .int 1], .tup [.int 0, .int 2, .int 1, .int 1, .int 1, .int 2], .tup [.int 0, .int 2, .int 1, .int 1, .int 2, .int 1], .tup [.int 0, .int 2, .int 1, .int 1, .int 2, .int 2], .tup [.int 0, .int 2, .int 1, .int 2, .int 1, .int 1], .tup [.int 0, .int 2, .int 1, .int 2, .int 1, .int 2], .tup [.int 0, .int 2, .int 1, .int 2, .int 2, .int 1], .tup [.int 0, .int 2, .int 1, .int 2, .int 2, .int 2], .tup [.int 0, .int 2, .int 2, .int 0, .int 2, .int 2], .tup [.int 0, .int 2, .int 2, .int 1, .int 1, .int 1], .tup [.int 0, .int 2, .int 2, .int 1, .int 1, .int 2], .tup [.int 0, .int 2, .int 2, .int 1, .int 2, .int 1], .tup [.int 0, .int 2, .int 2, .int 1, .int 2, .int 2], .tup [.int 0, .int 2, .int 2, .int 2, .int 1, .int 1], .tup [.int 0, .int 2, .int 2, .int 2, .int 1, .int 2], .tup [.int 0, .int 2, .int 2, .int 2, .int 2, .int 1], .tup [.int 0, .int 2, .int 2, .int 2, .int 2, .int 2], .tup [.int 1, .int 1, .int 1, .int 1, .int 1, .int 1], .tup [.int 1, .int 1, .int 1, .int 1, .int 1, .int 2], .tup [.int 1, .int 1, .int 1, .int 1, .int 2, .int 2], .tup [.int 1, .int 1, .int 1, .int 2, .int 1, .int 2], .tup [.int 1, .int 1, .int 1, .int 2, .int 2, .int 2], .tup [.int 1, .int 1, .int 2, .int 1, .int 1, .int 2], .tup [.int 1, .int 1, .int 2, .int 1, .int 2, .int 2], .tup [.int 1, .int 1, .int 2, .int 2, .int 1, .int 2], .tup [.int 1, .int 1, .int 2, .int 2, .int 2, .int 2], .tup [.int 1, .int 2, .int 1, .int 2, .int 1, .int 2], .tup [.int 1, .int 2, .int 1, .int 2, .int 2, .int 2], .tup [.int 1, .int 2, .int 2, .int 1, .int 2, .int 2], .tup [.int 1, .int 2, .int 2, .int 2, .int 2, .int 2]]), (741, .frz ROWS6), (0, .dice)]⟩)⟩
def CUT_4 : Nat → List Pc := fun i => match Nat.beq i 244 with | true => [P_4_0] | false => match Nat.beq i 366 with | true => [P_4_1] | false => match Nat.beq i 488 with | true => [P_4_2] | false => match Nat.beq i 610 with | true => [P_4_3] | false => []
theorem hP_4_0 : forGo G_4 B_4 (KS_4.thawZ P_4_0.fz) CUT_4 P_4_0.fz P_4_0.nb 244 P_4_0.rest P_4_0.st.1 P_4_0.st.2 = true := by decide +kernel
theorem hP_4_1 : forGo G_4 B_4 (KS_4.thawZ P_4_1.fz) CUT_4 P_4_1.fz P_4_1.nb 366 P_4_1.rest P_4_1.st.1 P_4_1.st.2 = true := by decide +kernel
theorem hP_4_2 : forGo G_4 B_4 (KS_4.thawZ P_4_2.fz) CUT_4 P_4_2.fz P_4_2.nb 488 P_4_2.rest P_4_2.st.1 P_4_2.st.2 = true := by decide +kernel
theorem hP_4_3 : forGo G_4 B_4 (KS_4.thawZ P_4_3.fz) CUT_4 P_4_3.fz P_4_3.nb 610 P_4_3.rest P_4_3.st.1 P_4_3.st.2 = true := by decide +kernel
theorem ok_4 : PcsOk G_4 B_4 KS_4 CUT_4 := by
  intro i c hc
  unfold CUT_4 at hc
  cases e : Nat.beq i 244 with
  | true => rw [e] at hc; have e2 := Nat.eq_of_beq_eq_true e; subst e2;  (rw [List.mem_singleton.mp hc]; exact hP_4_0)
  | false =>
  rw [e] at hc; clear e; dsimp only at hc
  cases e : Nat.beq i 366 with
  | true => rw [e] at hc; have e2 := Nat.eq_of_beq_eq_true e; subst e2;  (rw [List.mem_singleton.mp hc]; exact hP_4_1)
  | false =>
  rw [e] at hc; clear e; dsimp only at hc
  cases e : Nat.beq i 488 with
  | true => rw [e] at hc; have e2 := Nat.eq_of_beq_eq_true e; subst e2;  (rw [List.mem_singleton.mp hc]; exact hP_4_2)
  | false =>
  rw [e] at hc; clear e; dsimp only at hc
  cases e : Nat.beq i 610 with
  | true => rw [e] at hc; have e2 := Nat.eq_of_beq_eq_true e; subst e2;  (rw [List.mem_singleton.mp hc]; exact hP_4_3)
  | false =>
  rw [e] at hc; clear e; dsimp only at hc
  cases hc
def K_4 : CK := fun σ η => sForC (ciSeq (cVar 4)) G_4 B_4 CUT_4 σ η KS_4
def K_3 : CK := fun σ η => (sPar3 7 8 9 (cCons (cLst cNil) (cCons (cLst cNil) (cCons (cLst cNil) cNil)))) σ η { kT 17 with nx := K_4 }
def K_2 : CK := fun σ η => (sFor (ciR1 (cCons (cVar 2) cNil)) (gNm 5) (sAsg (cCall F__law_flat (cCons (cLc (ciSeq (cVar 4)) (gNm 6) ctYes (cLc (ciR1 (cCons (cVar 3) cNil)) (gNm 15) ctYes (cOp fAdd (cVar 6) (cTup (cCons (cVar 15) cNil))) [15]) [6]) cNil)) (gNm 4))) σ η { kT 17 with nx := K_3 }
def K_1 : CK := fun σ η => (sAsg (cLst (cCons (cTup cNil) cNil)) (gNm 4)) σ η { kT 17 with nx := K_2 }
def S_1_0 : SD × Hd := ([none, some (.ref 0), some (.int 1), some (.int 1), none, none, none, none, none, none, none, none, none, none, none, none, none], ⟨1, [(0, .dice)]⟩)
theorem hS_1_0 : (Nat.ble 1 S_1_0.2.nx && K_1 S_1_0.1 S_1_0.2) = true := by decide +kernel
def S_1_1 : SD × Hd := ([none, some (.ref 0), some (.int 1), some (.int 2), none, none, none, none, none, none, none, none, none, none, none, none, none], ⟨1, [(0, .dice)]⟩)
theorem hS_1_1 : (Nat.ble 1 S_1_1.2.nx && K_1 S_1_1.1 S_1_1.2) = true := by decide +kernel
def S_1_2 : SD × Hd := ([none, some (.ref 0), some (.int 1), some (.int 3), none, none, none, none, none, none, none, none, none, none, none, none, none], ⟨1, [(0, .dice)]⟩)
theorem hS_1_2 : (Nat.ble 1 S_1_2.2.nx && K_1 S_1_2.1 S_1_2.2) = true := by decide +kernel
def S_1_3 : SD × Hd := ([none, some (.ref 0), some (.int 2), some (.int 1), none, none, none, none, none, none, none, none, none, none, none, none, none], ⟨1, [(0, .dice)]⟩)
theorem hS_1_3 : (Nat.ble 1 S_1_3.2.nx && K_1 S_1_3.1 S_1_3.2) = true := by decide +kernel
def S_1_4 : SD × Hd := ([none, some (.ref 0), some (.int 2), some (.int 2), none, none, none, none, none, none, none, none, none, none, none, none, none], ⟨1, [(0, .dice)]⟩)
theorem hS_1_4 : (Nat.ble 1 S_1_4.2.nx && K_1 S_1_4.1 S_1_4.2) = true := by decide +kernel
def S_1_5 : SD × Hd := ([none, some (.ref 0), some (.int 2), some (.int 3), none, none, none, none, none, none, none, none, none, none, none, none, none], ⟨1, [(0, .dice)]⟩)
theorem hS_1_5 : (Nat.ble 1 S_1_5.2.nx && K_1 S_1_5.1 S_1_5.2) = true := by decide +kernel
def S_1_6 : SD × Hd := ([none, some (.ref 0), some (.int 3), some (.int 1), none, none, none, none, none, none, none, none, none, none, none, none, none], ⟨1, [(0, .dice)]⟩)
theorem hS_1_6 : (Nat.ble 1 S_1_6.2.nx && K_1 S_1_6.1 S_1_6.2) = true := by decide +kernel
def S_1_7 : SD × Hd := ([none, some (.ref 0), some (.int 3), some (.int 2), none, none, none, none, none, none, none, none, none, none, none, none, none], ⟨1, [(0, .dice)]⟩)
theorem hS_1_7 : (Nat.ble 1 S_1_7.2.nx && K_1 S_1_7.1 S_1_7.2) = true := by decide +kernel
def S_1_8 : SD × Hd := ([none, some (.ref 0), some (.int 3), some (.int 3), none, none, none, none, none, none, none, none, none, none, none, none, none], ⟨1, [(0, .dice)]⟩)
theorem hS_1_8 : (Nat.ble 1 S_1_8.2.nx && K_1 S_1_8.1 S_1_8.2) = true := by decide +kernel
def S_1_9 : SD × Hd := ([none, some (.ref 0), some (.int 4), some (.int 1), none, none, none, none, none, none, none, none, none, none, none, none, none], ⟨1, [(0, .dice)]⟩)
theorem hS_1_9 : (Nat.ble 1 S_1_9.2.nx && K_1 S_1_9.1 S_1_9.2) = true := by decide +kernel
def S_1_10 : SD × Hd := ([none, some (.ref 0), some (.int 4), some (.int 2), none, none, none, none, none, none, none, none, none, none, none, none, none], ⟨1, [(0, .dice)]⟩)
theorem hS_1_10 : (Nat.ble 1 S_1_10.2.nx && K_1 S_1_10.1 S_1_10.2) = true := by decide +kernel
def S_1_11 : SD × Hd := ([none, some (.ref 0), some (.int 4), some (.int 3), none, none, none, none, none, none, none, none, none, none, none, none, none], ⟨1, [(0, .dice)]⟩)
theorem hS_1_11 : (Nat.ble 1 S_1_11.2.nx && K_1 S_1_11.1 S_1_11.2) = true := by decide +kernel
def S_1_12 : SD × Hd := ([none, some (.ref 0), some (.int 5), some (.int 1), none, none, none, none, none, none, none, none, none, none, none, none, none], ⟨1, [(0, .dice)]⟩)
theorem hS_1_12 : (Nat.ble 1 S_1_12.2.nx && K_1 S_1_12.1 S_1_12.2) = true := by decide +kernel
def S_1_13 : SD × Hd := ([none, some (.ref 0), some (.int 5), some (.int 2), none, none, none, none, none, none, none, none, none, none, none, none, none], ⟨1, [(0, .dice)]⟩)
theorem hS_1_13 : (Nat.ble 1 S_1_13.2.nx && K_1 S_1_13.1 S_1_13.2) = true := by decide +kernel
def S_1_14 : SD × Hd := ([none, some (.ref 0), some (.int 5), some (.int 3), none, none, none, none, none, none, none, none, none, none, none, none, none], ⟨1, [(0, .dice)]⟩)
theorem hS_1_14 : (Nat.ble 1 S_1_14.2.nx && K_1 S_1_14.1 S_1_14.2) = true := by decide +kernel
def S_1_15 : SD × Hd := ([none, some (.ref 0), some (.int 6), some (.int 1), none, none, none, none, none, none, none, none, none, none, none, none, none], ⟨1, [(0, .dice)]⟩)
theorem hS_1_15 : (Nat.ble 1 S_1_15.2.nx && K_1 S_1_15.1 S_1_15.2) = true := by decide +kernel
def S_1_16 : SD × Hd := ([none, some (.ref 0), some (.int 6), some (.int 2), none, none, none, none, none, none, none, none, none, none, none, none, none], ⟨1, [(0, .dice)]⟩)
theorem hS_1_16 : (Nat.ble 1 S_1_16.2.nx && K_1 S_1_16.1 S_1_16.2) = true := by decide +kernel
def S_1_17 : SD × Hd := ([none, some (.ref 0), some (.int 6), some (.int 3), none, none, none, none, none, none, none, none, none, none, none, none, none], ⟨1, [(0, .dice)]⟩)
theorem hS_1_17 : (Nat.ble 1 S_1_17.2.nx && K_1 S_1_17.1 S_1_17.2) = true := by decide +kernel
def S_1 : List (SD × Hd) := [S_1_0, S_1_1, S_1_2, S_1_3, S_1_4, S_1_5, S_1_6, S_1_7, S_1_8, S_1_9, S_1_10, S_1_11, S_1_12, S_1_13, S_1_14, S_1_15, S_1_16, S_1_17]
theorem hS_1 : (S_1.all fun st => Nat.ble 1 st.2.nx && K_1 st.1 st.2) = true := List.all_eq_true.mpr (List.forall_mem_cons.mpr ⟨hS_1_0, List.forall_mem_cons.mpr ⟨hS_1_1, List.forall_mem_cons.mpr ⟨hS_1_2, List.forall_mem_cons.mpr ⟨hS_1_3, List.forall_mem_cons.mpr ⟨hS_1_4, List.forall_mem_cons.mpr ⟨hS_1_5, List.forall_mem_cons.mpr ⟨hS_1_6, List.forall_mem_cons.mpr ⟨hS_1_7, List.forall_mem_cons.mpr ⟨hS_1_8, List.forall_mem_cons.mpr ⟨hS_1_9, List.forall_mem_cons.mpr ⟨hS_1_10, List.forall_mem_cons.mpr ⟨hS_1_11, List.forall_mem_cons.mpr ⟨hS_1_12, List.forall_mem_cons.mpr ⟨hS_1_13, List.forall_mem_cons.mpr ⟨hS_1_14, List.forall_mem_cons.mpr ⟨hS_1_15, List.forall_mem_cons.mpr ⟨hS_1_16, List.forall_mem_cons.mpr ⟨hS_1_17, fun _ h => nomatch h⟩⟩⟩⟩⟩⟩⟩⟩⟩⟩⟩⟩⟩⟩⟩⟩⟩⟩)
def Kc_1 : CK := fun σ η => S_1.any fun st => leS st σ η
def K_0 : CK := fun σ η => (sAsg (cTup (cCons (cOp fAdd (cC (.int 1)) (cCall F__law_roll (cCons (cVar 1) (cCons (cC (.int 6)) cNil)))) (cCons (cOp fAdd (cC (.int 1)) (cCall F__law_roll (cCons (cVar 1) (cCons (cC (.int 3)) cNil)))) cNil))) (gTp 2 (gsCons (gNm 2) (gsCons (gNm 3) gsNil)))) σ η { kT 17 with nx := Kc_1 }
theorem hgen : K_0 ((List.replicate 17 none).set 1 (some (.ref 0))) ⟨1, [(0, .dice)]⟩ = true := by decide +kernel
theorem g_law (hy : Hy K mg) (tb : Tbs hy base) {fa : Addr} {oc kV dc pm ct cdv : Value} {od an : Option Addr} {sl : Array (Option Value)} (lk : K.lookup fa = some ⟨oc, od, .func (PySem.W.fnOf "law" "law" (defArgs s_law) (defBody s_law) (defScope s_law) .none kV dc pm an cdv ct), sl⟩)
    (hcd : PySem.W.codeIn K cdv "law" = true) : FnOk P w K mg base (L2.CX P w) 5 fa (PySem.W.fnOf "law" "law" (defArgs s_law) (defBody s_law) (defScope s_law) .none kV dc pm an cdv ct) ["script"] (spLaw K (nm hy)) :=
  have g__law_flat := g__law_flat (P := P) (w := w) (base := base) hy tb; have g__law_roll := g__law_roll (P := P) (w := w) (base := base) hy tb; have g__law_rounds := g__law_rounds (P := P) (w := w) (base := base) hy tb; have g_bracelets := g_bracelets (P := P) (w := w) (base := base) hy tb; have g_least_rings := g_least_rings (P := P) (w := w) (base := base) hy tb; have g_necklaces := g_necklaces (P := P) (w := w) (base := base) hy tb; have g_plain_rings := g_plain_rings (P := P) (w := w) (base := base) hy tb; have g_power := g_power (P := P) (w := w) (base := base) hy tb; have g_weight := g_weight (P := P) (w := w) (base := base) hy tb; fn_of (k := 4) lk hcd sc_law (fun vs H Q E h => by obtain ⟨_, _, rfl, _⟩ := h; rfl) fun A outer s H vs Q E hr h =>
    ⟨tLaw K (nm hy) 17, law_loop (n := 4) g__law_rounds (hr.mono (by decide)) (by rfl) hy.m__law_rounds hy.F__law_rounds.kp hy.b__law_rounds (passes_call (takes_of rfl rfl rfl rfl) (fun _ _ _ _ h => h)) (pv 0) pe_int (by decide) (passes_of rfl) rfl
      (jg_name (pg_name (i := 1) sc_law.nd rfl (by first | exact .inl rfl | exact .inr rfl))) (show JK _ _ _ 17 _ K_0 from jk_cons (js_asg (je_tup (ja_cons (je_op opd_add je_int (je_call g__law_roll (hr.mono (by decide)) (by rfl) hy.m__law_roll hy.F__law_roll.kp hy.b__law_roll (passes_call (takes_of rfl rfl rfl rfl) (fun _ _ _ _ h => h)) (ja_cons (je_var 1 (pv 1)) (ja_cons je_int ja_nil)))) (ja_cons (je_op opd_add je_int (je_call g__law_roll (hr.mono (by decide)) (by rfl) hy.m__law_roll hy.F__law_roll.kp hy.b__law_roll (passes_call (takes_of rfl rfl rfl rfl) (fun _ _ _ _ h => h)) (ja_cons (je_var 1 (pv 1)) (ja_cons je_int ja_nil)))) ja_nil))) (jg_tup rfl (jgs_cons (jg_name (pg_name (i := 2) sc_law.nd rfl (by first | exact .inl rfl | exact .inr rfl))) (jgs_cons (jg_name (pg_name (i := 3) sc_law.nd rfl (by first | exact .inl rfl | exact .inr rfl))) jgs_nil)))) (show JK _ _ _ 17 _ Kc_1 from jk_cut S_1 (show JK _ _ _ 17 _ K_1 from jk_cons (js_set (i := 4) sc_law.nd rfl (by first | exact .inl rfl | exact .inr rfl) (je_lst (ja_cons (je_tup ja_nil) ja_nil))) (show JK _ _ _ 17 _ K_2 from jk_cons (js_for (passes_of rfl) rfl (ji_range1 (by rfl) hy.z_range (ja_cons (je_var 2 (pv 2)) ja_nil)) (jg_name (pg_name (i := 5) sc_law.nd rfl (by first | exact .inl rfl | exact .inr rfl))) (jb_one (js_set (i := 4) sc_law.nd rfl (by first | exact .inl rfl | exact .inr rfl) (je_call g__law_flat (hr.mono (by decide)) (by rfl) hy.m__law_flat hy.F__law_flat.kp hy.b__law_flat (passes_call (takes_of rfl rfl rfl rfl) (fun _ _ _ _ h => h)) (ja_cons (je_lc (E' := E0) (own := [("row", 6)]) rfl sc_law.nd (ji_seq (je_var 4 (pv 4))) (blkOk_by (N := ["script", "dice", "many", "colours", "rows", "k", "row", "round_there", "over", "plain", "turns_there", "number", "due", "left", "prime", "colour", "one"]) (sc := defScope s_law) (own := [("row", 6)]) (by decide +kernel)) (fun _ _ _ _ _ => (jgw_name (pg_name (i := 6) sc_law.nd rfl (by first | exact .inl rfl | exact .inr rfl)))) (fun _ _ _ _ _ => jts_nil) (fun _ _ _ _ _ => (je_lc (E' := E0) (own := [("colour", 15)]) rfl sc_law.nd (ji_range1 (by rfl) hy.z_range (ja_cons (je_var 3 (pv 3)) ja_nil)) (blkOk_by (N := ["script", "dice", "many", "colours", "rows", "k", "row", "round_there", "over", "plain", "turns_there", "number", "due", "left", "prime", "colour", "one"]) (sc := relS ({ kind := .function, names := [(".0", .local), ("row", .cell), ("range", .globalImplicit), ("colours", .free)], isGenerator := false, isCoroutine := false } : Scope) (defScope s_law)) (own := [("colour", 15)]) (by decide +kernel)) (fun _ _ _ _ _ => (jgw_name (pg_name (i := 15) sc_law.nd rfl (by first | exact .inl rfl | exact .inr rfl)))) (fun _ _ _ _ _ => jts_nil) (fun _ _ _ _ _ => (je_op opd_add (je_var 6 (pv 6)) (je_tup (ja_cons (je_var 15 (pv 15)) ja_nil))))))) ja_nil))))) (show JK _ _ _ 17 _ K_3 from jk_cons (js_par3 (i := 7) (j := 8) (l := 9) rfl sc_law.nd rfl rfl rfl (by decide) (by decide) (by decide) rfl rfl rfl (ja_cons (je_lst ja_nil) (ja_cons (je_lst ja_nil) (ja_cons (je_lst ja_nil) ja_nil))) (by first | rfl | decide +kernel | with_unfolding_all rfl)) (show JK _ _ _ 17 _ K_4 from jk_forC CUT_4 (passes_of rfl) rfl (ji_seq (je_var 4 (pv 4))) (jg_name (pg_name (i := 6) sc_law.nd rfl (by first | exact .inl rfl | exact .inr rfl))) (jb_cons (by first | exact js_setLc (E' := E0) (own := [("k", 5)]) (i := 10) rfl sc_law.nd rfl rfl (sw_true rfl rfl rfl (by decide +kernel)) (ji_range1 (by rfl) hy.z_range (ja_cons (je_var 2 (pv 2)) ja_nil)) (blkOk_by (N := ["script", "dice", "many", "colours", "rows", "k", "row", "round_there", "over", "plain", "turns_there", "number", "due", "left", "prime", "colour", "one"]) (sc := defScope s_law) (own := [("k", 5)]) (by decide +kernel)) (fun _ _ _ _ _ => (jgw_name (pg_name (i := 5) sc_law.nd rfl (by first | exact .inl rfl | exact .inr rfl)))) (fun _ _ _ _ _ => jts_nil) (fun _ _ _ _ _ => (je_op opd_add (je_slice (je_var 6 (pv 6)) (jo_some (je_var 5 (pv 5))) jo_none) (je_slice (je_var 6 (pv 6)) jo_none (jo_some (je_var 5 (pv 5)))))) | exact js_set (i := 10) sc_law.nd rfl (by first | exact .inl rfl | exact .inr rfl) (je_lc (E' := E0) (own := [("k", 5)]) rfl sc_law.nd (ji_range1 (by rfl) hy.z_range (ja_cons (je_var 2 (pv 2)) ja_nil)) (blkOk_by (N := ["script", "dice", "many", "colours", "rows", "k", "row", "round_there", "over", "plain", "turns_there", "number", "due", "left", "prime", "colour", "one"]) (sc := defScope s_law) (own := [("k", 5)]) (by decide +kernel)) (fun _ _ _ _ _ => (jgw_name (pg_name (i := 5) sc_law.nd rfl (by first | exact .inl rfl | exact .inr rfl)))) (fun _ _ _ _ _ => jts_nil) (fun _ _ _ _ _ => (je_op opd_add (je_slice (je_var 6 (pv 6)) (jo_some (je_var 5 (pv 5))) jo_none) (je_slice (je_var 6 (pv 6)) jo_none (jo_some (je_var 5 (pv 5)))))))) (jb_cons (js_set (i := 7) sc_law.nd rfl (by first | exact .inl rfl | exact .inr rfl) (je_op opd_add (je_var 7 (pv 7)) (je_op opd_mul (je_lst (ja_cons (je_var 6 (pv 6)) ja_nil)) (je_ty ty_int (by rfl) hy.z_int (by rfl) (ja_cons (je_cmp (opd_eq hr.units) (je_var 6 (pv 6)) (je_blt (blt_min rfl (hu_of hr)) (by rfl) hy.z_min (by rfl) (ja_cons (je_var 10 (pv 10)) ja_nil)) (by rfl)) ja_nil))))) (jb_cons (js_set (i := 8) sc_law.nd rfl (by first | exact .inl rfl | exact .inr rfl) (je_op opd_add (je_var 8 (pv 8)) (je_op opd_mul (je_lst (ja_cons (je_var 6 (pv 6)) ja_nil)) (je_ty ty_int (by rfl) hy.z_int (by rfl) (ja_cons (je_cmp (opd_eq hr.units) (je_var 6 (pv 6)) (je_blt (blt_min rfl (hu_of hr)) (by rfl) hy.z_min (by rfl) (ja_cons (je_op opd_add (je_var 10 (pv 10)) (je_lc (E' := E0) (own := [("one", 16)]) rfl sc_law.nd (ji_seq (je_var 10 (pv 10))) (blkOk_by (N := ["script", "dice", "many", "colours", "rows", "k", "row", "round_there", "over", "plain", "turns_there", "number", "due", "left", "prime", "colour", "one"]) (sc := defScope s_law) (own := [("one", 16)]) (by decide +kernel)) (fun _ _ _ _ _ => (jgw_name (pg_name (i := 16) sc_law.nd rfl (by first | exact .inl rfl | exact .inr rfl)))) (fun _ _ _ _ _ => jts_nil) (fun _ _ _ _ _ => (je_tupRt rfl (by rfl) hy.z_tuple (by rfl) hy.z_reversed (je_var 16 (pv 16)))))) ja_nil)) (by rfl)) ja_nil))))) (jb_one (js_set (i := 9) sc_law.nd rfl (by first | exact .inl rfl | exact .inr rfl) (je_op opd_add (je_var 9 (pv 9)) (je_op opd_mul (je_lst (ja_cons (je_var 6 (pv 6)) ja_nil)) (je_ty ty_int (by rfl) hy.z_int (by rfl) (ja_cons (je_and (je_cmp (opd_eq hr.units) (je_var 6 (pv 6)) (je_blt (blt_min rfl (hu_of hr)) (by rfl) hy.z_min (by rfl) (ja_cons (je_var 10 (pv 10)) ja_nil)) (by rfl)) (je_one (je_cmp (opd_eq hr.units) (je_mt PySem.F.plainAttrs_list PySem.F.slot_list_count PySem.F.type_list_count (mtd_count (hu65 hr)) (je_var 10 (pv 10)) (ja_cons (je_var 6 (pv 6)) ja_nil)) je_int (by rfl)))) ja_nil))))))))) (show JK _ _ _ 17 _ K_5 from jk_cons (js_if (jt_of (jw_or (jt_cmp (opd_ne hr.units) (je_call g_necklaces (hr.mono (by decide)) (by rfl) hy.m_necklaces hy.F_necklaces.kp hy.b_necklaces (passes_call (takes_of rfl rfl rfl rfl) (fun _ _ _ _ h => h)) (ja_cons (je_var 2 (pv 2)) (ja_cons (je_var 3 (pv 3)) ja_nil))) (je_blt blt_len (by rfl) hy.z_len (by rfl) (ja_cons (je_var 7 (pv 7)) ja_nil)) (by rfl)) (jw_or1 (jt_cmp (opd_ne hr.units) (je_call g_bracelets (hr.mono (by decide)) (by rfl) hy.m_bracelets hy.F_bracelets.kp hy.b_bracelets (passes_call (takes_of rfl rfl rfl rfl) (fun _ _ _ _ h => h)) (ja_cons (je_var 2 (pv 2)) (ja_cons (je_var 3 (pv 3)) ja_nil))) (je_blt blt_len (by rfl) hy.z_len (by rfl) (ja_cons (je_var 8 (pv 8)) ja_nil)) (by rfl))))) (jb_one (js_ret je_bl)) jb_nil) (show JK _ _ _ 17 _ K_6 from jk_cons (js_if (jt_cmp (opd_ne hr.units) (je_call g_plain_rings (hr.mono (by decide)) (by rfl) hy.m_plain_rings hy.F_plain_rings.kp hy.b_plain_rings (passes_call (takes_of rfl rfl rfl rfl) (fun _ _ _ _ h => h)) (ja_cons (je_var 2 (pv 2)) (ja_cons (je_var 3 (pv 3)) ja_nil))) (je_blt blt_len (by rfl) hy.z_len (by rfl) (ja_cons (je_var 9 (pv 9)) ja_nil)) (by rfl)) (jb_one (js_ret je_bl)) jb_nil) (show JK _ _ _ 17 _ K_7 from jk_cons (js_if (jt_cmp (opd_ne hr.units) (je_ty ty_list (by rfl) hy.z_list (by rfl) (ja_cons (je_call g_least_rings (hr.mono (by decide)) (by rfl) hy.m_least_rings hy.F_least_rings.kp hy.b_least_rings (passes_call (takes_of rfl rfl rfl rfl) (fun _ _ _ _ h => h)) (ja_cons (je_var 2 (pv 2)) (ja_cons (je_var 3 (pv 3)) ja_nil))) ja_nil)) (je_blt blt_sorted (by rfl) hy.z_sorted (by rfl) (ja_cons (je_var 9 (pv 9)) ja_nil)) (by rfl)) (jb_one (js_ret je_bl)) jb_nil) (show JK _ _ _ 17 _ K_8 from jk_cons (js_if (jt_cmp (opd_ne hr.units) (je_blt (blt_sum rfl) (by rfl) hy.z_sum (by rfl) (ja_cons (je_lc (E' := E0) (own := [("k", 5)]) rfl sc_law.nd (ji_range2 (by rfl) hy.z_range (ja_cons je_int (ja_cons (je_op opd_add (je_var 2 (pv 2)) je_int) ja_nil))) (blkOk_by (N := ["script", "dice", "many", "colours", "rows", "k", "row", "round_there", "over", "plain", "turns_there", "number", "due", "left", "prime", "colour", "one"]) (sc := defScope s_law) (own := [("k", 5)]) (by decide +kernel)) (fun _ _ _ _ _ => (jgw_name (pg_name (i := 5) sc_law.nd rfl (by first | exact .inl rfl | exact .inr rfl)))) (fun _ _ _ _ _ => (jts_one (jt_cmp (opd_eq hr.units) (je_op opd_mod (je_var 2 (pv 2)) (je_var 5 (pv 5))) je_int (by rfl)))) (fun _ _ _ _ _ => (je_call g_plain_rings (hr.mono (by decide)) (by rfl) hy.m_plain_rings hy.F_plain_rings.kp hy.b_plain_rings passL (ja_cons (je_var 5 (pv 5)) (ja_cons (je_var 3 (pv 3)) ja_nil))))) ja_nil)) (je_blt blt_len (by rfl) hy.z_len (by rfl) (ja_cons (je_var 7 (pv 7)) ja_nil)) (by rfl)) (jb_one (js_ret je_bl)) jb_nil) (show JK _ _ _ 17 _ Kc_9 from jk_cut S_9 (show JK _ _ _ 17 _ K_9 from jk_cons (js_asg (je_tup (ja_cons (je_op opd_add je_int (je_call g__law_roll (hr.mono (by decide)) (by rfl) hy.m__law_roll hy.F__law_roll.kp hy.b__law_roll (passes_call (takes_of rfl rfl rfl rfl) (fun _ _ _ _ h => h)) (ja_cons (je_var 1 (pv 1)) (ja_cons je_int ja_nil)))) (ja_cons je_int ja_nil))) (jg_tup rfl (jgs_cons (jg_name (pg_name (i := 11) sc_law.nd rfl (by first | exact .inl rfl | exact .inr rfl))) (jgs_cons (jg_name (pg_name (i := 12) sc_law.nd rfl (by first | exact .inl rfl | exact .inr rfl))) jgs_nil)))) (show JK _ _ _ 17 _ K_10 from jk_cons (js_set (i := 13) sc_law.nd rfl (by first | exact .inl rfl | exact .inr rfl) (je_var 11 (pv 11))) (show JK _ _ _ 17 _ K_11 from jk_cons (js_for (passes_of rfl) rfl (ji_range2 (by rfl) hy.z_range (ja_cons je_int (ja_cons (je_op opd_add (je_var 11 (pv 11)) je_int) ja_nil))) (jg_name (pg_name (i := 14) sc_law.nd rfl (by first | exact .inl rfl | exact .inr rfl))) (jb_one (js_if (jt_cmp (opd_eq hr.units) (je_op opd_mod (je_var 13 (pv 13)) (je_var 14 (pv 14))) je_int (by rfl)) (jb_cons (js_set (i := 13) sc_law.nd rfl (by first | exact .inl rfl | exact .inr rfl) (je_op opd_div (je_var 13 (pv 13)) (je_var 14 (pv 14)))) (jb_cons (js_set (i := 12) sc_law.nd rfl (by first | exact .inl rfl | exact .inr rfl) (je_if (jt_cmp (opd_eq hr.units) (je_op opd_mod (je_var 13 (pv 13)) (je_var 14 (pv 14))) je_int (by rfl)) je_int (je_op opd_sub je_int (je_var 12 (pv 12))))) (jb_one (js_while (passes_of rfl) (jt_cmp (opd_eq hr.units) (je_op opd_mod (je_var 13 (pv 13)) (je_var 14 (pv 14))) je_int (by rfl)) (jb_one (js_set (i := 13) sc_law.nd rfl (by first | exact .inl rfl | exact .inr rfl) (je_op opd_div (je_var 13 (pv 13)) (je_var 14 (pv 14))))))))) jb_nil))) (show JK _ _ _ 17 _ K_12 from jk_cons (js_if (jt_cmp (opd_ne hr.units) (je_call g_weight (hr.mono (by decide)) (by rfl) hy.m_weight hy.F_weight.kp hy.b_weight (passes_call (takes_of rfl rfl rfl rfl) (fun _ _ _ _ h => h)) (ja_cons (je_var 11 (pv 11)) ja_nil)) (je_var 12 (pv 12)) (by rfl)) (jb_one (js_ret je_bl)) jb_nil) (show JK _ _ _ 17 _ K_13 from jk_cons (js_if (jt_cmp (opd_ne hr.units) (je_blt (blt_sum rfl) (by rfl) hy.z_sum (by rfl) (ja_cons (je_lc (E' := E0) (own := [("k", 5)]) rfl sc_law.nd (ji_range2 (by rfl) hy.z_range (ja_cons je_int (ja_cons (je_op opd_add (je_var 11 (pv 11)) je_int) ja_nil))) (blkOk_by (N := ["script", "dice", "many", "colours", "rows", "k", "row", "round_there", "over", "plain", "turns_there", "number", "due", "left", "prime", "colour", "one"]) (sc := defScope s_law) (own := [("k", 5)]) (by decide +kernel)) (fun _ _ _ _ _ => (jgw_name (pg_name (i := 5) sc_law.nd rfl (by first | exact .inl rfl | exact .inr rfl)))) (fun _ _ _ _ _ => (jts_one (jt_cmp (opd_eq hr.units) (je_op opd_mod (je_var 11 (pv 11)) (je_var 5 (pv 5))) je_int (by rfl)))) (fun _ _ _ _ _ => (je_call g_weight (hr.mono (by decide)) (by rfl) hy.m_weight hy.F_weight.kp hy.b_weight passL (ja_cons (je_var 5 (pv 5)) ja_nil)))) ja_nil)) (je_ty ty_int (by rfl) hy.z_int (by rfl) (ja_cons (je_cmp (opd_eq hr.units) (je_var 11 (pv 11)) je_int (by rfl)) ja_nil)) (by rfl)) (jb_one (js_ret je_bl)) jb_nil) (show JK _ _ _ 17 _ K_14 from jk_of (jb_one (js_if (jt_cmp (opd_ne hr.units) (je_call g_power (hr.mono (by decide)) (by rfl) hy.m_power hy.F_power.kp hy.b_power (passes_call (takes_of rfl rfl rfl rfl) (fun _ _ _ _ h => h)) (ja_cons (je_var 3 (pv 3)) (ja_cons (je_var 2 (pv 2)) ja_nil))) (je_blt blt_len (by rfl) hy.z_len (by rfl) (ja_cons (je_var 4 (pv 4)) ja_nil)) (by rfl)) (jb_one (js_ret je_bl)) jb_nil)))))))) hS_9))))) ok_4)))) hS_1)) hgen, tLaw_of h (by decide)⟩
end
theorem all_mk {l : PySem.W.OpenLaw} {w : World} {K : PySem.W.Frag} {h : Heap} {mg : Str → Option Value} {fa : Addr} (X : K.In h) (G : h.Ns mainGlobals mg) (hfa : mg "law" = some (.ref fa)) {q : Program} (own : ∀ (y : Str) (fb : Addr), ((PyProof.Rows.recsOf q).any fun e => e.name == y) = true → mg y = some (.ref fb) → LamX.OwnTab K fb h)
    {f_shared : Addr} {od_shared an_shared : Option Addr} {sl_shared : Array (Option Value)} {oc_shared kV_shared dc_shared pm_shared cd_shared ct_shared : Value}
    {f_power : Addr} {od_power an_power : Option Addr} {sl_power : Array (Option Value)} {oc_power kV_power dc_power pm_power cd_power ct_power : Value}
    {f_necklaces : Addr} {od_necklaces an_necklaces : Option Addr} {sl_necklaces : Array (Option Value)} {oc_necklaces kV_necklaces dc_necklaces pm_necklaces ct_necklaces : Value}
    {f_bracelets : Addr} {od_bracelets an_bracelets : Option Addr} {sl_bracelets : Array (Option Value)} {oc_bracelets kV_bracelets dc_bracelets pm_bracelets cd_bracelets ct_bracelets : Value}
    {f_plain_rings : Addr} {od_plain_rings an_plain_rings : Option Addr} {sl_plain_rings : Array (Option Value)} {oc_plain_rings kV_plain_rings dc_plain_rings pm_plain_rings ct_plain_rings : Value}
    {f_weight : Addr} {od_weight an_weight : Option Addr} {sl_weight : Array (Option Value)} {oc_weight kV_weight dc_weight pm_weight cd_weight ct_weight : Value}
    {f_least_rings : Addr} {od_least_rings an_least_rings : Option Addr} {sl_least_rings : Array (Option Value)} {oc_least_rings kV_least_rings dc_least_rings pm_least_rings cd_least_rings ct_least_rings : Value}
    {f__law_flat : Addr} {od__law_flat an__law_flat : Option Addr} {sl__law_flat : Array (Option Value)} {oc__law_flat kV__law_flat dc__law_flat pm__law_flat cd__law_flat ct__law_flat : Value}
    {f__law_dice : Addr} {od__law_dice an__law_dice : Option Addr} {sl__law_dice : Array (Option Value)} {oc__law_dice kV__law_dice dc__law_dice pm__law_dice cd__law_dice ct__law_dice : Value}
    {f__law_roll : Addr} {od__law_roll an__law_roll : Option Addr} {sl__law_roll : Array (Option Value)} {oc__law_roll kV__law_roll dc__law_roll pm__law_roll cd__law_roll ct__law_roll : Value}
    {f__law_rounds : Addr} {od__law_rounds an__law_rounds : Option Addr} {sl__law_rounds : Array (Option Value)} {oc__law_rounds kV__law_rounds dc__law_rounds pm__law_rounds cd__law_rounds ct__law_rounds : Value}
    {f_law : Addr} {od_law an_law : Option Addr} {sl_law : Array (Option Value)} {oc_law kV_law dc_law pm_law cd_law ct_law : Value}
    {tc_necklaces tP_necklaces : Addr} {te_necklaces : Value} {td_necklaces : Option Addr} {tv_necklaces : Array Value} {tsl_necklaces : Array (Option Value)}
    {tc_plain_rings tP_plain_rings : Addr} {te_plain_rings : Value} {td_plain_rings : Option Addr} {tv_plain_rings : Array Value} {tsl_plain_rings : Array (Option Value)}
    (a_shared : PySem.W.nsIn K mainGlobals "shared" = some (some (.ref f_shared)))
    (l_shared : K.lookup f_shared = some ⟨oc_shared, od_shared, .func (PySem.W.fnOf "shared" "shared" (defArgs s_shared) (defBody s_shared) (defScope s_shared) .none kV_shared dc_shared pm_shared an_shared (cd_shared) ct_shared), sl_shared⟩)
    (d_shared : PySem.W.codeIn K (cd_shared) "shared" = true)
    (k_shared : PySem.W.keepIn K (.ref f_shared) = true)
    (a_power : PySem.W.nsIn K mainGlobals "power" = some (some (.ref f_power)))
    (l_power : K.lookup f_power = some ⟨oc_power, od_power, .func (PySem.W.fnOf "power" "power" (defArgs s_power) (defBody s_power) (defScope s_power) .none kV_power dc_power pm_power an_power (cd_power) ct_power), sl_power⟩)
    (d_power : PySem.W.codeIn K (cd_power) "power" = true)
    (k_power : PySem.W.keepIn K (.ref f_power) = true)
    (a_necklaces : PySem.W.nsIn K mainGlobals "necklaces" = some (some (.ref f_necklaces)))
    (l_necklaces : K.lookup f_necklaces = some ⟨oc_necklaces, od_necklaces, .func (PySem.W.fnOf "necklaces" "necklaces" (defArgs s_necklaces) (defBody s_necklaces) (defScope s_necklaces) .none kV_necklaces dc_necklaces pm_necklaces an_necklaces (.ref tc_necklaces) ct_necklaces), sl_necklaces⟩)
    (d_necklaces : PySem.W.codeIn K (.ref tc_necklaces) "necklaces" = true)
    (k_necklaces : PySem.W.keepIn K (.ref f_necklaces) = true)
    (a_bracelets : PySem.W.nsIn K mainGlobals "bracelets" = some (some (.ref f_bracelets)))
    (l_bracelets : K.lookup f_bracelets = some ⟨oc_bracelets, od_bracelets, .func (PySem.W.fnOf "bracelets" "bracelets" (defArgs s_bracelets) (defBody s_bracelets) (defScope s_bracelets) .none kV_bracelets dc_bracelets pm_bracelets an_bracelets (cd_bracelets) ct_bracelets), sl_bracelets⟩)
    (d_bracelets : PySem.W.codeIn K (cd_bracelets) "bracelets" = true)
    (k_bracelets : PySem.W.keepIn K (.ref f_bracelets) = true)
    (a_plain_rings : PySem.W.nsIn K mainGlobals "plain_rings" = some (some (.ref f_plain_rings)))
    (l_plain_rings : K.lookup f_plain_rings = some ⟨oc_plain_rings, od_plain_rings, .func (PySem.W.fnOf "plain_rings" "plain_rings" (defArgs s_plain_rings) (defBody s_plain_rings) (defScope s_plain_rings) .none kV_plain_rings dc_plain_rings pm_plain_rings an_plain_rings (.ref tc_plain_rings) ct_plain_rings), sl_plain_rings⟩)
    (d_plain_rings : PySem.W.codeIn K (.ref tc_plain_rings) "plain_rings" = true)
    (k_plain_rings : PySem.W.keepIn K (.ref f_plain_rings) = true)
    (a_weight : PySem.W.nsIn K mainGlobals "weight" = some (some (.ref f_weight)))
    (l_weight : K.lookup f_weight = some ⟨oc_weight, od_weight, .func (PySem.W.fnOf "weight" "weight" (defArgs s_weight) (defBody s_weight) (defScope s_weight) .none kV_weight dc_weight pm_weight an_weight (cd_weight) ct_weight), sl_weight⟩)
    (d_weight : PySem.W.codeIn K (cd_weight) "weight" = true)
    (k_weight : PySem.W.keepIn K (.ref f_weight) = true)
    (a_least_rings : PySem.W.nsIn K mainGlobals "least_rings" = some (some (.ref f_least_rings)))
    (l_least_rings : K.lookup f_least_rings = some ⟨oc_least_rings, od_least_rings, .func (PySem.W.fnOf "least_rings" "least_rings" (defArgs s_least_rings) (defBody s_least_rings) (defScope s_least_rings) .none kV_least_rings dc_least_rings pm_least_rings an_least_rings (cd_least_rings) ct_least_rings), sl_least_rings⟩)
    (d_least_rings : PySem.W.codeIn K (cd_least_rings) "least_rings" = true)
    (k_least_rings : PySem.W.keepIn K (.ref f_least_rings) = true)
    (a__law_flat : PySem.W.nsIn K mainGlobals "_law_flat" = some (some (.ref f__law_flat)))
    (l__law_flat : K.lookup f__law_flat = some ⟨oc__law_flat, od__law_flat, .func (PySem.W.fnOf "_law_flat" "_law_flat" (defArgs s__law_flat) (defBody s__law_flat) (defScope s__law_flat) .none kV__law_flat dc__law_flat pm__law_flat an__law_flat (cd__law_flat) ct__law_flat), sl__law_flat⟩)
    (d__law_flat : PySem.W.codeIn K (cd__law_flat) "_law_flat" = true)
    (k__law_flat : PySem.W.keepIn K (.ref f__law_flat) = true)
    (a__law_dice : PySem.W.nsIn K mainGlobals "_law_dice" = some (some (.ref f__law_dice)))
    (l__law_dice : K.lookup f__law_dice = some ⟨oc__law_dice, od__law_dice, .func (PySem.W.fnOf "_law_dice" "_law_dice" (defArgs s__law_dice) (defBody s__law_dice) (defScope s__law_dice) .none kV__law_dice dc__law_dice pm__law_dice an__law_dice (cd__law_dice) ct__law_dice), sl__law_dice⟩)
    (d__law_dice : PySem.W.codeIn K (cd__law_dice) "_law_dice" = true)
    (k__law_dice : PySem.W.keepIn K (.ref f__law_dice) = true)
    (a__law_roll : PySem.W.nsIn K mainGlobals "_law_roll" = some (some (.ref f__law_roll)))
    (l__law_roll : K.lookup f__law_roll = some ⟨oc__law_roll, od__law_roll, .func (PySem.W.fnOf "_law_roll" "_law_roll" (defArgs s__law_roll) (defBody s__law_roll) (defScope s__law_roll) .none kV__law_roll dc__law_roll pm__law_roll an__law_roll (cd__law_roll) ct__law_roll), sl__law_roll⟩)
    (d__law_roll : PySem.W.codeIn K (cd__law_roll) "_law_roll" = true)
    (k__law_roll : PySem.W.keepIn K (.ref f__law_roll) = true)
    (a__law_rounds : PySem.W.nsIn K mainGlobals "_law_rounds" = some (some (.ref f__law_rounds)))
    (l__law_rounds : K.lookup f__law_rounds = some ⟨oc__law_rounds, od__law_rounds, .func (PySem.W.fnOf "_law_rounds" "_law_rounds" (defArgs s__law_rounds) (defBody s__law_rounds) (defScope s__law_rounds) .none kV__law_rounds dc__law_rounds pm__law_rounds an__law_rounds (cd__law_rounds) ct__law_rounds), sl__law_rounds⟩)
    (d__law_rounds : PySem.W.codeIn K (cd__law_rounds) "_law_rounds" = true)
    (k__law_rounds : PySem.W.keepIn K (.ref f__law_rounds) = true)
    (a_law : PySem.W.nsIn K mainGlobals "law" = some (some (.ref f_law)))
    (l_law : K.lookup f_law = some ⟨oc_law, od_law, .func (PySem.W.fnOf "law" "law" (defArgs s_law) (defBody s_law) (defScope s_law) .none kV_law dc_law pm_law an_law (cd_law) ct_law), sl_law⟩)
    (d_law : PySem.W.codeIn K (cd_law) "law" = true)
    (k_law : PySem.W.keepIn K (.ref f_law) = true)
    (z_abs : PySem.W.nsIn K mainGlobals "abs" = some none)
    (z_int : PySem.W.nsIn K mainGlobals "int" = some none)
    (z_len : PySem.W.nsIn K mainGlobals "len" = some none)
    (z_list : PySem.W.nsIn K mainGlobals "list" = some none)
    (z_min : PySem.W.nsIn K mainGlobals "min" = some none)
    (z_range : PySem.W.nsIn K mainGlobals "range" = some none)
    (z_reversed : PySem.W.nsIn K mainGlobals "reversed" = some none)
    (z_sorted : PySem.W.nsIn K mainGlobals "sorted" = some none)
    (z_sum : PySem.W.nsIn K mainGlobals "sum" = some none)
    (z_tuple : PySem.W.nsIn K mainGlobals "tuple" = some none)
    (t1_necklaces : K.lookup tc_necklaces = some ⟨te_necklaces, td_necklaces, .fields tv_necklaces, tsl_necklaces⟩)
    (t2_necklaces : tv_necklaces[11]? = some (.ref tP_necklaces))
    (t3_necklaces : PySem.W.codeHdIn K tc_necklaces tP_necklaces = true)
    (t4_necklaces : K.lookup tP_necklaces = none)
    (r_necklaces : ((PyProof.Rows.recsOf q).any fun e => e.name == "necklaces") = true)
    (t1_plain_rings : K.lookup tc_plain_rings = some ⟨te_plain_rings, td_plain_rings, .fields tv_plain_rings, tsl_plain_rings⟩)
    (t2_plain_rings : tv_plain_rings[11]? = some (.ref tP_plain_rings))
    (t3_plain_rings : PySem.W.codeHdIn K tc_plain_rings tP_plain_rings = true)
    (t4_plain_rings : K.lookup tP_plain_rings = none)
    (r_plain_rings : ((PyProof.Rows.recsOf q).any fun e => e.name == "plain_rings") = true)
    (nd : [tP_necklaces, tP_plain_rings].Nodup) :
    LamX.LawAtS l w K (L2.CX l.prog w) 5 63 "script" mg fa h := by
  have e := hfa.symm.trans (PySem.W.mg_of X G a_law)
  cases e
  let hy : Hy K mg := { f_shared := f_shared, fd_shared := _, F_shared := fun_mk (st := s_shared) l_shared d_shared k_shared, m_shared := PySem.W.mg_of X G a_shared, b_shared := (fun_mk (st := s_shared) l_shared d_shared k_shared).binds (ps := ["one", "other"]) fun _ _ _ _ _ _ us hl => (match us, hl with | [_, _], _ => rfl), f_power := f_power, fd_power := _, F_power := fun_mk (st := s_power) l_power d_power k_power, m_power := PySem.W.mg_of X G a_power, b_power := (fun_mk (st := s_power) l_power d_power k_power).binds (ps := ["base", "many"]) fun _ _ _ _ _ _ us hl => (match us, hl with | [_, _], _ => rfl), f_necklaces := f_necklaces, fd_necklaces := _, F_necklaces := fun_mk (st := s_necklaces) l_necklaces d_necklaces k_necklaces, m_necklaces := PySem.W.mg_of X G a_necklaces, b_necklaces := (fun_mk (st := s_necklaces) l_necklaces d_necklaces k_necklaces).binds (ps := ["many", "colours"]) fun _ _ _ _ _ _ us hl => (match us, hl with | [_, _], _ => rfl), f_bracelets := f_bracelets, fd_bracelets := _, F_bracelets := fun_mk (st := s_bracelets) l_bracelets d_bracelets k_bracelets, m_bracelets := PySem.W.mg_of X G a_bracelets, b_bracelets := (fun_mk (st := s_bracelets) l_bracelets d_bracelets k_bracelets).binds (ps := ["many", "colours"]) fun _ _ _ _ _ _ us hl => (match us, hl with | [_, _], _ => rfl), f_plain_rings := f_plain_rings, fd_plain_rings := _, F_plain_rings := fun_mk (st := s_plain_rings) l_plain_rings d_plain_rings k_plain_rings, m_plain_rings := PySem.W.mg_of X G a_plain_rings, b_plain_rings := (fun_mk (st := s_plain_rings) l_plain_rings d_plain_rings k_plain_rings).binds (ps := ["many", "colours"]) fun _ _ _ _ _ _ us hl => (match us, hl with | [_, _], _ => rfl), f_weight := f_weight, fd_weight := _, F_weight := fun_mk (st := s_weight) l_weight d_weight k_weight, m_weight := PySem.W.mg_of X G a_weight, b_weight := (fun_mk (st := s_weight) l_weight d_weight k_weight).binds (ps := ["number"]) fun _ _ _ _ _ _ us hl => (match us, hl with | [_], _ => rfl), f_least_rings := f_least_rings, fd_least_rings := _, F_least_rings := fun_mk (st := s_least_rings) l_least_rings d_least_rings k_least_rings, m_least_rings := PySem.W.mg_of X G a_least_rings, b_least_rings := (fun_mk (st := s_least_rings) l_least_rings d_least_rings k_least_rings).binds (ps := ["many", "colours"]) fun _ _ _ _ _ _ us hl => (match us, hl with | [_, _], _ => rfl), f__law_flat := f__law_flat, fd__law_flat := _, F__law_flat := fun_mk (st := s__law_flat) l__law_flat d__law_flat k__law_flat, m__law_flat := PySem.W.mg_of X G a__law_flat, b__law_flat := (fun_mk (st := s__law_flat) l__law_flat d__law_flat k__law_flat).binds (ps := ["rows"]) fun _ _ _ _ _ _ us hl => (match us, hl with | [_], _ => rfl), f__law_dice := f__law_dice, fd__law_dice := _, F__law_dice := fun_mk (st := s__law_dice) l__law_dice d__law_dice k__law_dice, m__law_dice := PySem.W.mg_of X G a__law_dice, b__law_dice := (fun_mk (st := s__law_dice) l__law_dice d__law_dice k__law_dice).binds (ps := ["cell"]) fun _ _ _ _ _ _ us hl => (match us, hl with | [_], _ => rfl), f__law_roll := f__law_roll, fd__law_roll := _, F__law_roll := fun_mk (st := s__law_roll) l__law_roll d__law_roll k__law_roll, m__law_roll := PySem.W.mg_of X G a__law_roll, b__law_roll := (fun_mk (st := s__law_roll) l__law_roll d__law_roll k__law_roll).binds (ps := ["dice", "many"]) fun _ _ _ _ _ _ us hl => (match us, hl with | [_, _], _ => rfl), f__law_rounds := f__law_rounds, fd__law_rounds := _, F__law_rounds := fun_mk (st := s__law_rounds) l__law_rounds d__law_rounds k__law_rounds, m__law_rounds := PySem.W.mg_of X G a__law_rounds, b__law_rounds := (fun_mk (st := s__law_rounds) l__law_rounds d__law_rounds k__law_rounds).binds (ps := ["script", "most"]) fun _ _ _ _ _ _ us hl => (match us, hl with | [_, _], _ => rfl), z_abs := PySem.W.mg_none_of X G z_abs, z_int := PySem.W.mg_none_of X G z_int, z_len := PySem.W.mg_none_of X G z_len, z_list := PySem.W.mg_none_of X G z_list, z_min := PySem.W.mg_none_of X G z_min, z_range := PySem.W.mg_none_of X G z_range, z_reversed := PySem.W.mg_none_of X G z_reversed, z_sorted := PySem.W.mg_none_of X G z_sorted, z_sum := PySem.W.mg_none_of X G z_sum, z_tuple := PySem.W.mg_none_of X G z_tuple, tc_necklaces := tc_necklaces, tP_necklaces := tP_necklaces, cd_necklaces := rfl, tc_plain_rings := tc_plain_rings, tP_plain_rings := tP_plain_rings, cd_plain_rings := rfl, nd := nd }
  exact ⟨_, [(tc_necklaces, tP_necklaces), (tc_plain_rings, tP_plain_rings)], spLaw K (nm hy), (List.forall_mem_cons.mpr ⟨(own "necklaces" _ r_necklaces (PySem.W.mg_of X G a_necklaces) tc_necklaces tP_necklaces _ _ _ _ _ _ l_necklaces rfl rfl t1_necklaces t2_necklaces), List.forall_mem_cons.mpr ⟨(own "plain_rings" _ r_plain_rings (PySem.W.mg_of X G a_plain_rings) tc_plain_rings tP_plain_rings _ _ _ _ _ _ l_plain_rings rfl rfl t1_plain_rings t2_plain_rings), fun _ h => nomatch h⟩⟩), (List.forall_mem_cons.mpr ⟨t4_necklaces, List.forall_mem_cons.mpr ⟨t4_plain_rings, fun _ h => nomatch h⟩⟩), (List.forall_mem_cons.mpr ⟨(PySem.W.codeHd_of_K X t3_necklaces), List.forall_mem_cons.mpr ⟨(PySem.W.codeHd_of_K X t3_plain_rings), fun _ h => nomatch h⟩⟩), fun s v => .of_eq rfl, fun H a ns _ _ hT hS => ⟨a, ns, rfl, hS, (List.forall_mem_cons.mpr ⟨(LamX.TabS.nil (hT _ List.mem_cons_self)), List.forall_mem_cons.mpr ⟨(LamX.TabS.nil (hT _ (List.mem_cons_of_mem _ List.mem_cons_self))), fun _ h => nomatch h⟩⟩), fun _ => rfl⟩, fun base _ _ TB => g_law hy ⟨trivial, TB _ List.mem_cons_self, TB _ (List.mem_cons_of_mem _ List.mem_cons_self)⟩ l_law d_law⟩
end L24
open PySem PySem.W PyProof.Rows
set_option maxHeartbeats 0 in
theorem PySem.Challenge.cw_grouphall_k24_rings_of_beads_holds : PySem.Challenge.rw_grouphall_k24_rings_of_beads.Holds := by
  w_on; o_law; k_head; (case hw => w_witness2)
  k_fill
  refine DL.walk_ofAll (l := PySem.Challenge.rw_grouphall_k24_rings_of_beads) (n := 63) (k := 5) (x := "script") (CX := fun w => L2.CX PySem.Challenge.rw_grouphall_k24_rings_of_beads.prog w) rfl (by decide) rfl ⟨rfl, by decide, by decide⟩ (fun w h Y => by first | exact PySem.W.kIn_of Y | exact PySem.W.km_in_of Y) ?F (fun _ _ _ _ _ z => by obtain ⟨_, _, _, _, _, _, _, _, _, _, _, _, z⟩ := z; exact z)
  case F =>
    intro w mg fa h Y KX G hmg own
    refine' L24.all_mk KX G hmg own ?a_shared ?l_shared ?d_shared ?k_shared ?a_power ?l_power ?d_power ?k_power ?a_necklaces ?l_necklaces ?d_necklaces ?k_necklaces ?a_bracelets ?l_bracelets ?d_bracelets ?k_bracelets ?a_plain_rings ?l_plain_rings ?d_plain_rings ?k_plain_rings ?a_weight ?l_weight ?d_weight ?k_weight ?a_least_rings ?l_least_rings ?d_least_rings ?k_least_rings ?a__law_flat ?l__law_flat ?d__law_flat ?k__law_flat ?a__law_dice ?l__law_dice ?d__law_dice ?k__law_dice ?a__law_roll ?l__law_roll ?d__law_roll ?k__law_roll ?a__law_rounds ?l__law_rounds ?d__law_rounds ?k__law_rounds ?a_law ?l_law ?d_law ?k_law ?z_abs ?z_int ?z_len ?z_list ?z_min ?z_range ?z_reversed ?z_sorted ?z_sum ?z_tuple ?t1_necklaces ?t2_necklaces ?t3_necklaces ?t4_necklaces ?r_necklaces ?t1_plain_rings ?t2_plain_rings ?t3_plain_rings ?t4_plain_rings ?r_plain_rings ?nd
    (case a_shared => k_is); (case l_shared => k_is); (case d_shared => k_is); (case k_shared => k_is); (case a_power => k_is); (case l_power => k_is); (case d_power => k_is); (case k_power => k_is); (case a_necklaces => k_is); (case l_necklaces => k_is); (case d_necklaces => k_is); (case k_necklaces => k_is); (case a_bracelets => k_is); (case l_bracelets => k_is); (case d_bracelets => k_is); (case k_bracelets => k_is); (case a_plain_rings => k_is); (case l_plain_rings => k_is); (case d_plain_rings => k_is); (case k_plain_rings => k_is); (case a_weight => k_is); (case l_weight => k_is); (case d_weight => k_is); (case k_weight => k_is); (case a_least_rings => k_is); (case l_least_rings => k_is); (case d_least_rings => k_is); (case k_least_rings => k_is); (case a__law_flat => k_is); (case l__law_flat => k_is); (case d__law_flat => k_is); (case k__law_flat => k_is); (case a__law_dice => k_is); (case l__law_dice => k_is); (case d__law_dice => k_is); (case k__law_dice => k_is); (case a__law_roll => k_is); (case l__law_roll => k_is); (case d__law_roll => k_is); (case k__law_roll => k_is); (case a__law_rounds => k_is); (case l__law_rounds => k_is); (case d__law_rounds => k_is); (case k__law_rounds => k_is); (case a_law => k_is); (case l_law => k_is); (case d_law => k_is); (case k_law => k_is); (case z_abs => k_is); (case z_int => k_is); (case z_len => k_is); (case z_list => k_is); (case z_min => k_is); (case z_range => k_is); (case z_reversed => k_is); (case z_sorted => k_is); (case z_sum => k_is); (case z_tuple => k_is); (case t1_necklaces => k_is); (case t2_necklaces => exact rfl); (case t3_necklaces => exact rfl); (case t4_necklaces => first | k_is | exact rfl); (case r_necklaces => decide +kernel); (case t1_plain_rings => k_is); (case t2_plain_rings => exact rfl); (case t3_plain_rings => exact rfl); (case t4_plain_rings => first | k_is | exact rfl); (case r_plain_rings => decide +kernel); (case nd => decide)
