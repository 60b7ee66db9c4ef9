import PyProof.Rows.All
import Wide.All
import OpenK.AllK
import Wide.FinOn
import HandS.ForMost
import HandS.ForExc
import HandS.Flow
import HandS.Style
import HandS.IsInst
import HandS.ExcIs
import HandS.WordsExc
import HandS.HeadWalk
import HandS.Wide
import HandS.WideBits
import HandS.Conv
import HandS.Deep
import HandS.StrMore
import HandS.Codes
import HandS.TupAny
import HandS.SetFor
import HandS.HeadHook2
import HandS.HeadEnd
import HandS.Head2
import HandS.EndBits
import KE.DataEq
import KE.SortKeyed
import KE.SortData
import KE.KDictKeyed
import HandS.TupMul
import KE.DataCmp
import KE.KDictPairs
import KE.KDictSum
import HandS.ListItems
import HandS.SortOrd
import HandS.DictTup
import KE.SortKeyHeap
import HandS.ExcValue
import HandS.SortKw
import HandS.Rev
import PyProof.ListStr
import HandS.Zip
import HandS.WideMore
import HandS.ExcOwn
import HandS.Small
import KE.KStateDown
import Lean
import HandS.Head0
import HandS.Head1
import PySem.Challenge.RW_stayledger_k03_atoms_looked_at
set_option Elab.async false
set_option linter.all false
set_option maxRecDepth 100000
set_option maxHeartbeats 0
/-! DE1: data and how a heap bears them; slots; the state of a def over data. -/
namespace DE
open PySem PySem.Spec PyProof.Rows L2

abbrev D := PyData

def kD : Key -> D
  | .inl i => .int i
  | .inr x => .str x

/-- an exception of the class cls, caught -/
def CxO (cls : Value) (a : Addr) : HO := .ext fun h => ∃ (oe : Obj) (vs : Array Value), h.get? a = some oe ∧ Zc cls none oe ∧ oe.data = .fields vs
/-- an exception as data: its class by its name -/
abbrev excD (c : Str) : D := .dict [(.none, .str c)]
/-- the object has no dict of its own -/
def NoDx (K : PySem.W.Frag) (F : Hp) (a : Addr) : Prop := (∃ o u, F a = some (.frz o u) ∧ o.dict = none) ∨ ∃ o, K.lookup a = some o ∧ o.dict = none
def SqU (K : PySem.W.Frag) (F : Hp) (a : Addr) (xs : List V) : Prop := SqT K F a xs ∧ NoDx K F a
mutual
inductive Dat (K : PySem.W.Frag) (F : Hp) : V -> D -> Prop
  | non : Dat K F .non .none
  | bl (b : Bool) : Dat K F (.bl b) (.bool b)
  | int (i : Int) : Dat K F (.int i) (.int i)
  | str (x : Str) : Dat K F (.str x) (.str x)
  | lst {a : Addr} {xs : List V} {ds : List D} : SqL K F a xs -> DatL K F xs ds -> Dat K F (.ref a) (.list ds)
  | tup {a : Addr} {xs : List V} {ds : List D} : SqU K F a xs -> DatL K F xs ds -> Dat K F (.ref a) (.tuple ds)
  | dct {a : Addr} {ks : List (Key × V)} {ds : List (D × D)} : F a = some (.dK ks) -> DatK K F ks ds -> Dat K F (.ref a) (.dict ds)
  | exc {a : Addr} {c : Str} : F a = some (CxO (.ref (He.ga K c)) a) -> Dat K F (.ref a) (.dict [(.none, .str c)])
inductive DatL (K : PySem.W.Frag) (F : Hp) : List V -> List D -> Prop
  | nil : DatL K F [] []
  | cons {v : V} {vs : List V} {d : D} {ds : List D} : Dat K F v d -> DatL K F vs ds -> DatL K F (v :: vs) (d :: ds)
inductive DatK (K : PySem.W.Frag) (F : Hp) : List (Key × V) -> List (D × D) -> Prop
  | nil : DatK K F [] []
  | cons {k : Key} {v : V} {ks : List (Key × V)} {d : D} {ds : List (D × D)} : Dat K F v d -> DatK K F ks ds -> DatK K F ((k, v) :: ks) ((kD k, d) :: ds)
end

theorem Rd.mono {F F' : Hp} (e : Same F F') {a : Addr} {o : HO} (h : Rd F a o) : Rd F' a o := by
  rcases h with h | ⟨b, h⟩
  · exact .inl (e _ _ h)
  · exact .inr ⟨b, e _ _ h⟩
theorem sqL_mono {K : PySem.W.Frag} {F F' : Hp} (e : Same F F') {a : Addr} {xs : List V} (h : SqL K F a xs) : SqL K F' a xs := e.seq h
theorem sqT_mono {K : PySem.W.Frag} {F F' : Hp} (e : Same F F') {a : Addr} {xs : List V} (h : SqT K F a xs) : SqT K F' a xs := by
  rcases h with h | h
  · exact .inl (Rd.mono e h)
  · exact .inr h

theorem sqU_mono {K : PySem.W.Frag} {F F' : Hp} (e : Same F F') {a : Addr} {xs : List V} (h : SqU K F a xs) : SqU K F' a xs :=
  ⟨sqT_mono e h.1, h.2.elim (fun ⟨o, u, z, q⟩ => .inl ⟨o, u, e _ _ z, q⟩) fun z => .inr z⟩
section
variable {K : PySem.W.Frag} {F F' : Hp}
mutual
theorem Dat.mono (e : Same F F') : ∀ {v : V} {d : D}, Dat K F v d -> Dat K F' v d
  | _, _, .non => .non
  | _, _, .bl b => .bl b
  | _, _, .int i => .int i
  | _, _, .str x => .str x
  | _, _, .lst h t => .lst (sqL_mono e h) (DatL.mono e t)
  | _, _, .tup h t => .tup (sqU_mono e h) (DatL.mono e t)
  | _, _, .dct h t => .dct (e _ _ h) (DatK.mono e t)
  | _, _, .exc h => .exc (e _ _ h)
theorem DatL.mono (e : Same F F') : ∀ {vs : List V} {ds : List D}, DatL K F vs ds -> DatL K F' vs ds
  | _, _, .nil => .nil
  | _, _, .cons h t => .cons (Dat.mono e h) (DatL.mono e t)
theorem DatK.mono (e : Same F F') : ∀ {ks : List (Key × V)} {ds : List (D × D)}, DatK K F ks ds -> DatK K F' ks ds
  | _, _, .nil => .nil
  | _, _, .cons h t => .cons (Dat.mono e h) (DatK.mono e t)
end
theorem DatL.length : ∀ {vs : List V} {ds : List D}, DatL K F vs ds -> vs.length = ds.length
  | _, _, .nil => rfl
  | _, _, .cons _ t => by rw [List.length_cons, List.length_cons, DatL.length t]
theorem DatL.append : ∀ {vs ws : List V} {ds es : List D}, DatL K F vs ds -> DatL K F ws es -> DatL K F (vs ++ ws) (ds ++ es)
  | _, _, _, _, .nil, s => s
  | _, _, _, _, .cons h t, s => .cons h (DatL.append t s)
theorem DatL.get : ∀ {vs : List V} {ds : List D} {i : Nat} {d : D}, DatL K F vs ds -> ds[i]? = some d -> ∃ v, vs[i]? = some v ∧ Dat K F v d
  | _, _, _, _, .nil, e => by simp at e
  | _, _, 0, _, .cons h _, e => by simp at e; subst e; exact ⟨_, rfl, h⟩
  | _, _, i + 1, d, .cons _ t, e => by
    obtain ⟨v, h1, h2⟩ := DatL.get (i := i) (d := d) t (by simpa using e)
    exact ⟨v, by simpa using h1, h2⟩
theorem DatL.getV : ∀ {vs : List V} {ds : List D} {i : Nat} {v : V}, DatL K F vs ds -> vs[i]? = some v -> ∃ d, ds[i]? = some d ∧ Dat K F v d
  | _, _, _, _, .nil, e => by simp at e
  | _, _, 0, _, .cons h _, e => by simp at e; subst e; exact ⟨_, rfl, h⟩
  | _, _, i + 1, v, .cons _ t, e => by
    obtain ⟨d, h1, h2⟩ := DatL.getV (i := i) (v := v) t (by simpa using e)
    exact ⟨d, by simpa using h1, h2⟩
theorem DatL.take : ∀ {vs : List V} {ds : List D} (n : Nat), DatL K F vs ds -> DatL K F (vs.take n) (ds.take n)
  | _, _, 0, _ => .nil
  | _, _, _ + 1, .nil => .nil
  | _, _, n + 1, .cons h t => .cons h (DatL.take n t)
theorem DatL.drop : ∀ {vs : List V} {ds : List D} (n : Nat), DatL K F vs ds -> DatL K F (vs.drop n) (ds.drop n)
  | _, _, 0, h => h
  | _, _, _ + 1, .nil => .nil
  | _, _, n + 1, .cons _ t => DatL.drop n t
theorem DatL.set {v : V} {d : D} (h : Dat K F v d) : ∀ {vs : List V} {ds : List D} (n : Nat), DatL K F vs ds -> DatL K F (vs.set n v) (ds.set n d)
  | _, _, _, .nil => .nil
  | _, _, 0, .cons _ t => .cons h t
  | _, _, n + 1, .cons q t => .cons q (DatL.set h n t)
theorem DatL.reverse : ∀ {vs : List V} {ds : List D}, DatL K F vs ds -> DatL K F vs.reverse ds.reverse
  | _, _, .nil => .nil
  | _, _, .cons h t => by rw [List.reverse_cons, List.reverse_cons]; exact (DatL.reverse t).append (.cons h .nil)
theorem DatL.ofInts : ∀ ns : List Int, DatL K F (ns.map V.int) (ns.map PyData.int)
  | [] => .nil
  | n :: ns => .cons (.int n) (DatL.ofInts ns)
theorem DatL.ints : ∀ {vs : List V} {ns : List Int}, DatL K F vs (ns.map PyData.int) -> vs = ns.map V.int
  | _, [], h => by cases h; rfl
  | _, n :: ns, h => by
    cases h with
    | cons a t => cases a; rw [DatL.ints t]; rfl
theorem DatL.strs : ∀ {vs : List V} {ns : List Str}, DatL K F vs (ns.map PyData.str) -> vs = ns.map V.str
  | _, [], h => by cases h; rfl
  | _, n :: ns, h => by
    cases h with
    | cons a t => cases a; rw [DatL.strs t]; rfl
theorem DatL.bools : ∀ {vs : List V} {ns : List Bool}, DatL K F vs (ns.map PyData.bool) -> vs = ns.map V.bl
  | _, [], h => by cases h; rfl
  | _, n :: ns, h => by
    cases h with
    | cons a t => cases a; rw [DatL.bools t]; rfl
mutual
theorem Dat.dp : ∀ {v : V} {d : D}, Dat K F v d -> d.plain = true -> Dp K F v d
  | _, _, .non, _ => .non
  | _, _, .bl b, _ => .bl b
  | _, _, .int i, _ => .int i
  | _, _, .str x, _ => .str x
  | _, _, .lst h t, p => .lst h (DatL.dp t (by simpa [PyData.plain] using p))
  | _, _, .tup h t, p => .tup h.1 (DatL.dp t (by simpa [PyData.plain] using p))
  | _, _, .dct _ _, p => by simp [PyData.plain] at p
  | _, _, .exc _, p => by simp [PyData.plain] at p
theorem DatL.dp : ∀ {vs : List V} {ds : List D}, DatL K F vs ds -> PyData.plainAll ds = true -> DpAll K F vs ds
  | _, _, .nil, _ => .nil
  | _, _, .cons h t, p => by
    simp only [PyData.plainAll, Bool.and_eq_true] at p
    exact .cons (Dat.dp h p.1) (DatL.dp t p.2)
end
end

/-! ### cells: what a slot holds -/
inductive Cell where
  | emp | pure (d : D) | own (d : D) | inp (d : D)
abbrev DEnv := List Cell
/-- an object that is owned: it stands at a, its children lie in the still part F -/
def OwnAt (K : PySem.W.Frag) (F H : Hp) (a : Addr) : D -> Prop
  | .list ds => ∃ xs, H a = some (.lst xs) ∧ DatL K F xs ds
  | .dict kvs => ∃ ks, H a = some (.dK ks) ∧ DatK K F ks kvs
  | _ => False
theorem OwnAt.mono {K : PySem.W.Frag} {F F' H H' : Hp} {a : Addr} (e : Same F F') (s : ∀ o, H a = some o -> H' a = some o) : ∀ {d : D}, OwnAt K F H a d -> OwnAt K F' H' a d
  | .list _, ⟨xs, h, t⟩ => ⟨xs, s _ h, t.mono e⟩
  | .dict _, ⟨ks, h, t⟩ => ⟨ks, s _ h, t.mono e⟩
theorem OwnAt.there {K : PySem.W.Frag} {F H : Hp} {a : Addr} : ∀ {d : D}, OwnAt K F H a d -> ∃ o, H a = some o
  | .list _, ⟨_, h, _⟩ => ⟨_, h⟩
  | .dict _, ⟨_, h, _⟩ => ⟨_, h⟩
/-- frozen: it joins the still part -/
theorem OwnAt.frz {K : PySem.W.Frag} {F H : Hp} {a : Addr} {d : D} (h : OwnAt K F H a d) (n : F a = none) : ∃ o, H a = some o ∧ Dat K (upd F a o) (.ref a) d := by
  have sm : ∀ o, Same F (upd F a o) := fun o b u e => by rw [upd_ne (ne_of_none e n)]; exact e
  cases d with
  | list ds =>
    obtain ⟨xs, h, t⟩ := h
    exact ⟨_, h, .lst (.inl (.inl upd_same)) (t.mono (sm _))⟩
  | dict ds =>
    obtain ⟨xs, h, t⟩ := h
    exact ⟨_, h, .dct upd_same (t.mono (sm _))⟩
  | _ => exact h.elim

/-- what one reads: in the still part, or owned -/
def RdV (K : PySem.W.Frag) (F H : Hp) (v : V) (d : D) : Prop := Dat K F v d ∨ ∃ a, v = .ref a ∧ OwnAt K F H a d

/-- the def's frame: F0 the still part at its entry, G what must stay, P the arguments that it may change -/
structure Fx where
  F0 : Hp
  G : Hp
  P : List (Nat × Addr)

/-- a slot's value and its cell -/
def SlotR (K : PySem.W.Frag) (F H : Hp) (sv : Option (Option V)) : Cell -> Prop
  | .emp => True
  | .pure d => ∃ v, sv = some (some v) ∧ Dat K F v d
  | .own d => ∃ a, sv = some (some (V.ref a)) ∧ OwnAt K F H a d
  | .inp d => ∃ a, sv = some (some (V.ref a)) ∧ OwnAt K F H a d
def Cell.isOwn : Cell -> Bool
  | .own _ => true
  | .inp _ => true
  | _ => false

structure Rel (K : PySem.W.Frag) (x : Fx) (F : Hp) (σ : L2.St) (H : Hp) (δ : DEnv) : Prop where
  len : σ.length = δ.length
  sub : Same F H
  frm : Same x.G H
  f0 : Same x.F0 F
  ext : ∀ a, F a ≠ none -> x.F0 a ≠ none ∨ x.G a = none
  slot : ∀ (i : Nat) (c : Cell), δ[i]? = some c -> SlotR K F H σ[i]? c
  own : ∀ (i : Nat) (c : Cell) (a : Addr), δ[i]? = some c -> c.isOwn = true -> σ[i]? = some (some (V.ref a)) -> F a = none ∧ x.G a = none
  sep : ∀ (i j : Nat) (c e : Cell) (a : Addr), i ≠ j -> δ[i]? = some c -> c.isOwn = true -> δ[j]? = some e -> e.isOwn = true -> σ[i]? = some (some (V.ref a)) -> σ[j]? ≠ some (some (V.ref a))
  par : ∀ p ∈ x.P, σ[p.1]? = some (some (V.ref p.2)) ∧ ∃ d, δ[p.1]? = some (.inp d)
  inp : ∀ (i : Nat) (d : D), δ[i]? = some (.inp d) -> ∃ a, (i, a) ∈ x.P ∧ σ[i]? = some (some (V.ref a))

/-- what an expression tells -/
inductive Rv where
  | pure (d : D) | own (d : D) | bor (i : Nat)
def ResV (K : PySem.W.Frag) (x : Fx) (F H : Hp) (σ : L2.St) (δ : DEnv) (v : V) : Rv -> Prop
  | .pure d => Dat K F v d
  | .own d => ∃ a, v = .ref a ∧ OwnAt K F H a d ∧ F a = none ∧ x.G a = none ∧ ∀ (i : Nat) (c : Cell), δ[i]? = some c -> c.isOwn = true -> σ[i]? ≠ some (some (V.ref a))
  | .bor i => σ[i]? = some (some v)
def Cell.rd : Cell -> Option D
  | .pure d => some d
  | .own d => some d
  | .inp d => some d
  | .emp => none
def rd (δ : DEnv) : Rv -> Option D
  | .pure d => some d
  | .own d => some d
  | .bor i => match δ[i]? with
    | some c => c.rd
    | none => none
def settle : Rv -> Rv
  | .own d => .pure d
  | r => r
structure Exn where
  cls : Str
  arg : Option (Str × D)
inductive Out (α : Type) where
  | ok (a : α) (δ : DEnv) | ex (e : Exn) (δ : DEnv) | no
def Out.bind {α β : Type} : Out α -> (α -> DEnv -> Out β) -> Out β
  | .ok a δ, f => f a δ
  | .ex e δ, _ => .ex e δ
  | .no, _ => .no
def ofO {α : Type} (δ : DEnv) : Option α -> Out α
  | some a => .ok a δ
  | none => .no
/-- a value that goes into data: a slot's own object is still from then on -/
def esc : Rv -> DEnv -> Out D
  | .pure d, δ => .ok d δ
  | .own d, δ => .ok d δ
  | .bor i, δ => match δ[i]? with
    | some (.pure d) => .ok d δ
    | some (.own d) => .ok d (δ.set i (.pure d))
    | _ => .no
/-- a value that goes to a name -/
def tk : Rv -> DEnv -> Out Cell
  | .pure d, δ => .ok (.pure d) δ
  | .own d, δ => .ok (.own d) δ
  | .bor i, δ => match δ[i]? with
    | some (.pure d) => .ok (.pure d) δ
    | some (.own d) => .ok (.pure d) (δ.set i (.pure d))
    | _ => .no

section
variable {K : PySem.W.Frag} {x : Fx} {F H : Hp} {σ : L2.St} {δ : DEnv}
theorem Rel.nF (R : Rel K x F σ H δ) {a : Addr} (h : H a = none) : F a = none := R.sub.free h
theorem Rel.nG (R : Rel K x F σ H δ) {a : Addr} (h : H a = none) : x.G a = none := R.frm.free h
theorem same_upd {F : Hp} {a : Addr} {o : HO} (n : F a = none) : Same F (upd F a o) := fun b u e => by rw [upd_ne (ne_of_none e n)]; exact e
theorem same_upd2 {F H : Hp} {a : Addr} {o : HO} (s : Same F H) : Same (upd F a o) (upd H a o) := fun b u e => by
  by_cases h : b = a
  · subst h; rw [upd_same] at e ⊢; exact e
  · rw [upd_ne h] at e ⊢; exact s _ _ e
theorem same_updL {F H : Hp} {a : Addr} {o : HO} (s : Same F H) (h : H a = some o) : Same (upd F a o) H := fun b u e => by
  by_cases q : b = a
  · subst q; rw [upd_same] at e; rw [h]; exact e
  · rw [upd_ne q] at e; exact s _ _ e
theorem same_updR {F H : Hp} {a : Addr} {o : HO} (s : Same F H) (n : F a = none) : Same F (upd H a o) := fun b u e => by
  rw [upd_ne (ne_of_none e n)]; exact s _ _ e

theorem SlotR.mono {F F' H H' : Hp} {sv : Option (Option V)} {c : Cell} (e : Same F F') (s : ∀ a o, c.isOwn = true -> sv = some (some (V.ref a)) -> H a = some o -> H' a = some o) (h : SlotR K F H sv c) : SlotR K F' H' sv c := by
  cases c with
  | emp => trivial
  | pure d => obtain ⟨v, h1, h2⟩ := h; exact ⟨v, h1, h2.mono e⟩
  | own d => obtain ⟨a, h1, h2⟩ := h; exact ⟨a, h1, h2.mono e fun o q => s a o rfl h1 q⟩
  | inp d => obtain ⟨a, h1, h2⟩ := h; exact ⟨a, h1, h2.mono e fun o q => s a o rfl h1 q⟩
theorem SlotR.ownA {F H : Hp} {sv : Option (Option V)} {c : Cell} (h : SlotR K F H sv c) (o : c.isOwn = true) : ∃ a, sv = some (some (V.ref a)) ∧ ∃ u, H a = some u := by
  cases c with
  | emp => cases o
  | pure d => cases o
  | own d => obtain ⟨a, h1, h2⟩ := h; exact ⟨a, h1, h2.there⟩
  | inp d => obtain ⟨a, h1, h2⟩ := h; exact ⟨a, h1, h2.there⟩

/-- the heap and the still part grow -/
theorem Rel.grow (R : Rel K x F σ H δ) {F' H' : Hp} (e : Same F F') (s : Same F' H') (h : Same H H') (n : ∀ a, F a = none -> F' a ≠ none -> H a = none) : Rel K x F' σ H' δ where
  len := R.len
  sub := s
  frm := R.frm.trans h
  f0 := R.f0.trans e
  ext := fun a q => by
    by_cases z : F a = none
    · exact .inr (R.nG (n a z q))
    · exact R.ext a z
  slot := fun i c q => (R.slot i c q).mono e fun a o _ _ z => h _ _ z
  own := fun i c a q o z => by
    obtain ⟨h1, h2⟩ := R.own i c a q o z
    refine ⟨?_, h2⟩
    cases w : F' a with
    | none => rfl
    | some u =>
      have hn := n a h1 (by rw [w]; exact fun z => by cases z)
      obtain ⟨b, e1, u, e2⟩ := (R.slot i c q).ownA o
      rw [z] at e1; cases e1
      rw [hn] at e2; cases e2
  sep := R.sep
  par := R.par
  inp := R.inp
/-- a new object beside all, tracked, not in the still part -/
theorem Rel.beside (R : Rel K x F σ H δ) {p : Addr} (o : HO) (n : H p = none) : Rel K x F σ (upd H p o) δ :=
  R.grow (Same.refl _) (same_updR R.sub (R.nF n)) (same_upd n) fun a z w => absurd z w
/-- a new object within the still part -/
theorem Rel.still (R : Rel K x F σ H δ) {p : Addr} (o : HO) (n : H p = none) : Rel K x (upd F p o) σ (upd H p o) δ :=
  R.grow (same_upd (R.nF n)) (same_upd2 R.sub) (same_upd n) fun a z w => by
    by_cases q : a = p
    · rw [q]; exact n
    · rw [upd_ne q] at w; exact absurd z w
/-- an object that no slot owns is frozen -/
theorem Rel.frzA (R : Rel K x F σ H δ) {a : Addr} {o : HO} (h : H a = some o) (nF : F a = none) (nG : x.G a = none) (ns : ∀ (i : Nat) (c : Cell), δ[i]? = some c -> c.isOwn = true -> σ[i]? ≠ some (some (V.ref a))) : Rel K x (upd F a o) σ H δ where
  len := R.len
  sub := same_updL R.sub h
  frm := R.frm
  f0 := R.f0.trans (same_upd nF)
  ext := fun b q => by
    by_cases z : b = a
    · rw [z]; exact .inr nG
    · rw [upd_ne z] at q; exact R.ext b q
  slot := fun i c q => (R.slot i c q).mono (same_upd nF) fun a o _ _ z => z
  own := fun i c b q o z => by
    obtain ⟨h1, h2⟩ := R.own i c b q o z
    refine ⟨?_, h2⟩
    rw [upd_ne]
    · exact h1
    · rintro rfl; exact ns i c q o z
  sep := R.sep
  par := R.par
  inp := R.inp
theorem Rel.settle (R : Rel K x F σ H δ) {v : V} {r : Rv} (h : ResV K x F H σ δ v r) : ∃ F', Rel K x F' σ H δ ∧ Same F F' ∧ ResV K x F' H σ δ v (DE.settle r) := by
  cases r with
  | pure d => exact ⟨F, R, Same.refl _, h⟩
  | bor i => exact ⟨F, R, Same.refl _, h⟩
  | own d =>
    obtain ⟨a, rfl, o, nF, nG, ns⟩ := h
    obtain ⟨u, hu, hd⟩ := o.frz nF
    exact ⟨_, R.frzA hu nF nG ns, same_upd nF, hd⟩
/-- a settled value stays -/
theorem ResV.stay {F' H' : Hp} {δ' : DEnv} {v : V} {r : Rv} (h : ResV K x F H σ δ v (DE.settle r)) (e : Same F F') : ResV K x F' H' σ δ' v (DE.settle r) := by
  cases r with
  | pure d => exact Dat.mono e h
  | own d => exact Dat.mono e h
  | bor i => exact h
theorem Rel.read (R : Rel K x F σ H δ) {v : V} {r : Rv} {d : D} (h : ResV K x F H σ δ v r) (e : rd δ r = some d) : RdV K F H v d := by
  cases r with
  | pure d' => cases e; exact .inl h
  | own d' => cases e; obtain ⟨a, rfl, o, _⟩ := h; exact .inr ⟨a, rfl, o⟩
  | bor i =>
    cases q : δ[i]? with
    | none => simp only [rd, q] at e; cases e
    | some c =>
      simp only [rd, q] at e
      have h : σ[i]? = some (some v) := h
      have hs := R.slot i c q
      cases c with
      | emp => cases e
      | pure d' => cases e; obtain ⟨w, h1, h2⟩ := hs; rw [h] at h1; cases h1; exact .inl h2
      | own d' => cases e; obtain ⟨w, h1, h2⟩ := hs; rw [h] at h1; cases h1; exact .inr ⟨_, rfl, h2⟩
      | inp d' => cases e; obtain ⟨w, h1, h2⟩ := hs; rw [h] at h1; cases h1; exact .inr ⟨_, rfl, h2⟩

theorem set_get {δ : DEnv} {i : Nat} {c : Cell} {j : Nat} {e : Cell} (h : (δ.set i c)[j]? = some e) : (j = i ∧ e = c ∧ i < δ.length) ∨ (j ≠ i ∧ δ[j]? = some e) := by
  by_cases q : j = i
  · subst q
    by_cases z : j < δ.length
    · rw [List.getElem?_set_self z] at h; cases h; exact .inl ⟨rfl, rfl, z⟩
    · rw [List.getElem?_eq_none (by rw [List.length_set]; omega)] at h; cases h
  · rw [List.getElem?_set_ne (Ne.symm q)] at h; exact .inr ⟨q, h⟩
/-- a slot's own object is frozen -/
theorem Rel.frzS (R : Rel K x F σ H δ) {i : Nat} {d : D} (q : δ[i]? = some (.own d)) : ∃ F' v, Rel K x F' σ H (δ.set i (.pure d)) ∧ Same F F' ∧ σ[i]? = some (some v) ∧ Dat K F' v d := by
  obtain ⟨a, hs, ho⟩ : SlotR K F H σ[i]? (.own d) := R.slot i _ q
  obtain ⟨nF, nG⟩ := R.own i _ a q rfl hs
  obtain ⟨u, hu, hd⟩ := ho.frz nF
  have hi : i < δ.length := (List.getElem?_eq_some_iff.mp q).1
  refine ⟨upd F a u, .ref a, ?_, same_upd nF, hs, hd⟩
  refine ⟨by rw [List.length_set]; exact R.len, same_updL R.sub hu, R.frm, R.f0.trans (same_upd nF), fun b z => ?_, fun j c z => ?_, fun j c b z o w => ?_, fun j k c e b njk z1 o1 z2 o2 w => ?_, fun p hp => ?_, fun j e z => ?_⟩
  · by_cases w : b = a
    · rw [w]; exact .inr nG
    · rw [upd_ne w] at z; exact R.ext b z
  · rcases set_get z with ⟨rfl, rfl, _⟩ | ⟨nj, z⟩
    · exact ⟨.ref a, hs, hd⟩
    · exact (R.slot j c z).mono (same_upd nF) fun a o _ _ z => z
  · rcases set_get z with ⟨rfl, rfl, _⟩ | ⟨nj, z⟩
    · cases o
    · obtain ⟨h1, h2⟩ := R.own j c b z o w
      refine ⟨?_, h2⟩
      rw [upd_ne]
      · exact h1
      · rintro rfl; exact R.sep j i c _ b nj z o q rfl w hs
  · rcases set_get z1 with ⟨rfl, rfl, _⟩ | ⟨nj, z1⟩
    · cases o1
    · rcases set_get z2 with ⟨rfl, rfl, _⟩ | ⟨nk, z2⟩
      · cases o2
      · exact R.sep j k c e b njk z1 o1 z2 o2 w
  · obtain ⟨h1, e, h2⟩ := R.par p hp
    refine ⟨h1, e, ?_⟩
    rw [List.getElem?_set_ne]
    · exact h2
    · rintro rfl; rw [q] at h2; cases h2
  · rcases set_get z with ⟨rfl, h, _⟩ | ⟨nj, z⟩
    · cases h
    · exact R.inp j e z
theorem Rel.esc (R : Rel K x F σ H δ) {v : V} {r : Rv} {d : D} {δ' : DEnv} (h : ResV K x F H σ δ v r) (e : DE.esc r δ = .ok d δ') : ∃ F', Rel K x F' σ H δ' ∧ Same F F' ∧ Dat K F' v d := by
  cases r with
  | pure d' => cases e; exact ⟨F, R, Same.refl _, h⟩
  | own d' =>
    cases e
    obtain ⟨F', R', s, h'⟩ := R.settle h
    exact ⟨F', R', s, h'⟩
  | bor i =>
    have h : σ[i]? = some (some v) := h
    cases q : δ[i]? with
    | none => simp only [DE.esc, q] at e; cases e
    | some c =>
      simp only [DE.esc, q] at e
      cases c with
      | emp => cases e
      | inp d' => cases e
      | pure d' =>
        cases e
        obtain ⟨w, h1, h2⟩ : SlotR K F H σ[i]? (.pure d) := R.slot i _ q
        rw [h] at h1; cases h1
        exact ⟨F, R, Same.refl _, h2⟩
      | own d' =>
        cases e
        obtain ⟨F', w, R', s, h1, h2⟩ := R.frzS q
        rw [h] at h1; cases h1
        exact ⟨F', R', s, h2⟩
theorem esc_nex {r : Rv} {δ δ' : DEnv} {e : Exn} : esc r δ ≠ .ex e δ' := by
  intro h
  cases r with
  | pure d => cases h
  | own d => cases h
  | bor i =>
    simp only [esc] at h
    split at h <;> cases h
end
end DE

/-! DE2: the compiled syntax, and what it tells over data. -/
namespace DE
open PySem PySem.Spec PyProof.Rows L2

/-- built-in functions, types asked by isinstance, methods -/
inductive Bf where
  | len | abs | all | any | int | list | tuple | sum | max | min | sorted | dict
  deriving DecidableEq
inductive Tf where
  | str | bool | int | list | tuple
  deriving DecidableEq
inductive Mf where
  | append | reverse | get | isupper | count
  deriving DecidableEq
/-- a target -/
inductive CT where
  | nm (i : Nat) | tp (ts : List CT)
mutual
inductive CE where
  | slot (i : Nat) | con (d : D) | glb (x : Str)
  | bin (op : Operator) (a b : CE) | neg (a : CE)
  | cmp (op : CmpOp) (a b : CE) | cmp2 (o p : CmpOp) (a b c : CE)
  | nt (a : CE) | an (a b : CE) | orr (a b : CE) | ife (c a b : CE)
  | tup (es : CEs) | lst (es : CEs)
  | idx (a i : CE) | slc (a : CE) (lo hi : CO)
  | call (f : Str) (as : CAs)
  | blt (f : Bf) (as : CEs)
  | isi (a : CE) (T : Tf) | ixc (a : CE) (yes no : List Str)
  | srt (a : CE) (f : Str)
  | lrv (a : CE) | sit (a : CE) | sky (a : CE) | sst (a : CE) | dsp (es : CEs)
  | mth (m : Mf) (o : CE) (as : CEs)
  | lc (elt : CE) (tg : CT) (it : CI) (cond : CO) (own : List Nat)
inductive CEs where
  | nil | cons (e : CE) (r : CEs)
inductive CO where
  | non | som (e : CE)
inductive CAs where
  | nil | val (e : CE) (r : CAs) | ref (i : Nat) (r : CAs)
inductive CI where
  | val (e : CE) | rng1 (a : CE) | rng2 (a b : CE) | zp (a b : CE)
end
mutual
inductive CS where
  | expr (e : CE) | asg (i : Nat) (e : CE) | asgT (t : CT) (e : CE) | seti (i : Nat) (k e : CE) | aug (i : Nat) (op : Operator) (e : CE)
  | ifs (c : CE) (t e : CSs) | whl (c : CE) (b : CSs) | fr (t : CT) (it : CI) (b : CSs)
  | ret (e : CE) | retN | pass | brk | cont | nev
  | ddk (i j : Nat) (it : CI) (f : Str)
  | rais (c : Str) (e : CE) | tryx (b : CSs) (yes no : List Str) (i j : Nat)
inductive CSs where
  | nil | cons (s : CS) (r : CSs)
end

/-! exceptions -/
def isX : D -> Bool
  | .dict ((.none, _) :: _) => true
  | _ => false
def excOf : D -> Option Str
  | .dict [(.none, .str c)] => some c
  | _ => none
def isxD (yes no : List Str) (d : D) : Option Rv := match excOf d with
  | some c => if yes.contains c = true then some (.pure (.bool true)) else if no.contains c = true then some (.pure (.bool false)) else none
  | none => none
/-! keys that are tuples -/
mutual
def nkey : D -> Option NestedKey
  | .none => some .none
  | .bool b => some (.num (if b = true then 1 else 0))
  | .int i => some (.num i)
  | .str x => some (.text x)
  | .tuple ds => (nkeys ds).map .tup
  | _ => none
def nkeys : List D -> Option (List NestedKey)
  | [] => some []
  | d :: r => match nkey d, nkeys r with
    | some k, some ks => some (k :: ks)
    | _, _ => none
end
def hasN {α : Type} (xs : List (NestedKey × α)) (k : NestedKey) : Bool := xs.any fun x => NestedKey.beq x.1 k
def putN {α : Type} (xs : List (NestedKey × α)) (k : NestedKey) (b : α) : List (NestedKey × α) := if hasN xs k = true then xs else xs ++ [(k, b)]
def ddD : List D -> List (NestedKey × D) -> Option (List (NestedKey × D))
  | [], acc => some acc
  | d :: r, acc => match d, nkey d with
    | .tuple _, some k => if k.depth ≤ 8 ∧ acc.length < sizeLine then ddD r (putN acc k d) else none
    | _, _ => none
/-! dicts with flat keys -/
def keyD : D -> Option Key
  | .int i => some (.inl i)
  | .str x => some (.inr x)
  | _ => none
def getKV : List (D × D) -> Key -> Option D
  | [], _ => none
  | (d, v) :: r, k => if keyD d = some k then some v else getKV r k
def repKV : List (D × D) -> Key -> D -> List (D × D)
  | [], _, _ => []
  | (d, w) :: r, k, v => (d, if keyD d = some k then v else w) :: repKV r k v
def putKV (kvs : List (D × D)) (k : Key) (v : D) : List (D × D) := if (getKV kvs k).isSome then repKV kvs k v else kvs ++ [(kD k, v)]
def mergeKV (kvs : List (D × D)) (more : List (Key × D)) : List (D × D) := more.foldl (fun acc p => putKV acc p.1 p.2) kvs
def pairsOf : List D -> Option (List (Key × D))
  | [] => some []
  | .tuple [a, b] :: r => match keyD a, pairsOf r with
    | some k, some ps => some ((k, b) :: ps)
    | _, _ => none
  | _ => none
def pairUp : List D -> Option (List (Key × D))
  | [] => some []
  | a :: b :: r => match keyD a, pairUp r with
    | some k, some ps => some ((k, b) :: ps)
    | _, _ => none
  | _ => none
def strKs : List (D × D) -> Option (List Str)
  | [] => some []
  | (.str x, _) :: r => (strKs r).map (x :: ·)
  | _ => none
def srtS (ks : List Str) : List Str := ks.mergeSort fun a b => decide (a.cps.toList ≤ b.cps.toList)
/-- sorted(d.items()), sorted(d.keys()) -/
def sitD : D -> Option Rv
  | .dict kvs => (strKs kvs).map fun ks => .own (.list ((srtS ks).map fun x => .tuple [.str x, (getKV kvs (.inr x)).getD .none]))
  | _ => none
def skyD : D -> Option Rv
  | .dict kvs => (strKs kvs).map fun ks => .own (.list ((srtS ks).map .str))
  | _ => none
/-! ### operations on data -/
def truthD : D -> Option Bool
  | .none => some false
  | .bool b => some b
  | .int i => some (i != 0)
  | .str s => if s.length ≤ sizeLine then some ((s.length : Int) != 0) else none
  | .list xs => some (!xs.isEmpty)
  | .tuple xs => some (!xs.isEmpty)
  | .dict xs => if isX (.dict xs) = true then none else some (!xs.isEmpty)
/-- below so many bits -/
def bits (i : Int) : Nat := if i = 0 then 0 else i.natAbs.log2 + 1
/-- below 2 ^ k in size (so written that a kernel does not count up to it) -/
def sizeB (b : Nat) (i : Int) : Bool := decide (0 < b - i.toNat) && decide (0 < b - (-i).toNat)
theorem sizeB_iff {b : Nat} {i : Int} : sizeB b i = true ↔ -(b : Int) < i ∧ i < b := by
  unfold sizeB
  simp only [Bool.and_eq_true, decide_eq_true_eq]
  omega
def mulOk (i j : Int) : Bool := sizeB 18446744073709551616 i || sizeB 18446744073709551616 j
def divOk (j : Int) : Bool := decide (0 < j) && decide (j.natAbs.log2 < 9000)
theorem divOk_small {j : Int} (h : 0 < j) (h2 : j < 2 ^ 200) : divOk j = true := by
  unfold divOk
  simp only [Bool.and_eq_true, decide_eq_true_eq]
  refine ⟨h, ?_⟩
  have h3 : j.natAbs < 2 ^ 200 := by omega
  have h4 : j.natAbs.log2 < 200 := (Nat.log2_lt (by omega)).mpr h3
  omega
/-- a text n times over -/
def repS (x : Str) (n : Int) : Str := ⟨((List.replicate n.toNat x.cps.toList).flatten).toArray⟩
def binD : Operator -> D -> D -> Option Rv
  | .Add, .int i, .int j => some (.pure (.int (i + j)))
  | .Sub, .int i, .int j => some (.pure (.int (i - j)))
  | .Mult, .int i, .int j => if mulOk i j then some (.pure (.int (i * j))) else none
  | .Mult, .str i, .int j => if 0 ≤ j ∧ j ≤ 1000000 ∧ i.length * j.toNat ≤ sizeLine then some (.pure (.str (repS i j))) else none
  | .Mult, .tuple xs, .int j => if xs.isEmpty then none else if j = 1 then some (.pure (.tuple xs)) else if j = 0 then some (.pure (.tuple [])) else none
  | .FloorDiv, .int i, .int j => if divOk j then some (.pure (.int (i / j))) else none
  | .Mod, .int i, .int j => if 0 < j then some (.pure (.int (i % j))) else none
  | .Pow, .int i, .int j => if 0 ≤ j ∧ j ≤ 1000000 ∧ i.natAbs < 2 ^ 64 then some (.pure (.int (i ^ j.toNat))) else none
  | .Add, .str i, .str j => if i.length + j.length ≤ sizeLine then some (.pure (.str (i ++ j))) else none
  | .Add, .tuple xs, .tuple ys => if xs.length + ys.length ≤ sizeLine then some (.pure (.tuple (xs ++ ys))) else none
  | .Add, .list xs, .list ys => if xs.length + ys.length ≤ sizeLine then some (.own (.list (xs ++ ys))) else none
  | _, _, _ => none
/-- data that == compares -/
def eqOk (d : D) : Bool := d.plain && decide (d.depth ≤ 64)
def eqD (d e : D) : Option Bool := if eqOk d && eqOk e then some (PyData.eqv d e) else none
def inL (d : D) (xs : List D) : Bool := xs.any fun y => PyData.eqv y d
def isOne (s : Str) : Option Nat := match s.cps.toList with
  | [c] => some c
  | _ => none
def hasCh (c : Nat) (t : Str) : Bool := decide (c ∈ t.cps.toList)
def inD (d : D) : D -> Option Bool
  | .list xs => if eqOk d && eqOk (.list xs) then some (inL d xs) else none
  | .tuple xs => if eqOk d && eqOk (.tuple xs) then some (inL d xs) else none
  | .str t => match d with
    | .str s => match isOne s with
      | some c => some (hasCh c t)
      | none => none
    | _ => none
  | .dict kvs => if isX (.dict kvs) = true then none else (keyD d).map fun k => (getKV kvs k).isSome
  | _ => none
def ordOk (d e : D) : Bool := d.plain && (e.plain && (PySem.W.alike d e && decide (d.depth ≤ 64)))
def ordD : CmpOp -> D -> D -> Option Bool
  | .Lt, .int i, .int j => some (decide (i < j))
  | .LtE, .int i, .int j => some (decide (i ≤ j))
  | .Gt, .int i, .int j => some (decide (j < i))
  | .GtE, .int i, .int j => some (decide (j ≤ i))
  | .Lt, .str i, .str j => some (decide (i.cps.toList < j.cps.toList))
  | .LtE, .str i, .str j => some (!decide (j.cps.toList < i.cps.toList))
  | .Lt, .tuple i, .tuple j => if ordOk (.tuple i) (.tuple j) then some (PySem.W.dataLt (.tuple i) (.tuple j)) else none
  | .LtE, .tuple i, .tuple j => if ordOk (.tuple i) (.tuple j) then some (!PySem.W.dataLt (.tuple j) (.tuple i)) else none
  | _, _, _ => none
def isNone : D -> Bool
  | .none => true
  | _ => false
def cmpD : CmpOp -> D -> D -> Option Bool
  | .Eq, d, e => eqD d e
  | .NotEq, d, e => (eqD d e).map (!·)
  | .In, d, e => inD d e
  | .NotIn, d, e => (inD d e).map (!·)
  | .Is, d, .none => some (isNone d)
  | .IsNot, d, .none => some (!isNone d)
  | op, d, e => ordD op d e
def idxD : D -> D -> Option D
  | .list xs, .int i => atI xs i
  | .tuple xs, .int i => atI xs i
  | .str z, .int i => if z.length ≤ sizeLine then (atI z.cps.toList i).map fun c => .str ⟨#[c]⟩ else none
  | .dict kvs, k => if isX (.dict kvs) = true then none else (keyD k).bind (getKV kvs)
  | _, _ => none
/-- a part of a list by a slice's ends -/
def cutL {α : Type} (xs : List α) (lo hi : Option Int) : List α :=
  (xs.drop (HT.sIx xs.length 0 lo)).take (HT.sIx xs.length xs.length hi - HT.sIx xs.length 0 lo)
def slcD (d : D) (lo hi : Option Int) : Option Rv := match d with
  | .str z => if z.length ≤ sizeLine then some (.pure (.str (cutS z lo hi))) else none
  | .list xs => some (.own (.list (cutL xs lo hi)))
  | .tuple xs => some (.pure (.tuple (cutL xs lo hi)))
  | _ => none
def lenD : D -> Option Nat
  | .str z => if z.length ≤ sizeLine then some z.length else none
  | .list xs => some xs.length
  | .tuple xs => some xs.length
  | .dict xs => if isX (.dict xs) = true then none else some xs.length
  | _ => none
def boolsOf : List D -> Option (List Bool)
  | [] => some []
  | .bool b :: r => (boolsOf r).map (b :: ·)
  | _ => none
def intsOf : List D -> Option (List Int)
  | [] => some []
  | .int b :: r => (intsOf r).map (b :: ·)
  | _ => none
/-- what is sorted by keys: alike data, of one kind -/
def okKeys (ks : List D) : Bool := PyData.plainAll ks && ((ks.all fun a => ks.all fun b => PySem.W.alike a b) && ((ks.all fun a => match a with
  | .tuple (_ :: _) => true
  | _ => false) || (ks.all fun a => match a with
  | .none => false
  | .tuple _ => false
  | _ => true)) && ks.all fun a => decide (a.depth ≤ 64))
def srtK (ds kds : List D) : List D := ((ds.zip kds).mergeSort (PySem.W.dataLe false (·.2))).map (·.1)
/-- list(reversed(a)) -/
def revD : D -> Option Rv
  | .list xs => some (.own (.list xs.reverse))
  | _ => none
def bltD : Bf -> List D -> Option Rv
  | .len, [d] => (lenD d).map fun (k : Nat) => .pure (.int (k : Int))
  | .abs, [.int i] => some (.pure (.int (if i < 0 then -i else i)))
  | .all, [.list xs] => (boolsOf xs).map fun bs => .pure (.bool (bs.all id))
  | .any, [.list xs] => (boolsOf xs).map fun bs => .pure (.bool (bs.any id))
  | .list, [.list xs] => some (.own (.list xs))
  | .list, [.tuple xs] => some (.own (.list xs))
  | .list, [.dict xs] => if isX (.dict xs) = true then none else some (.own (.list (xs.map (·.1))))
  | .dict, [.dict xs] => if isX (.dict xs) = true then none else some (.own (.dict xs))
  | .dict, [.list xs] => (pairsOf xs).map fun ps => .own (.dict (mergeKV [] ps))
  | .dict, [.tuple xs] => (pairsOf xs).map fun ps => .own (.dict (mergeKV [] ps))
  | .tuple, [.list xs] => some (.pure (.tuple xs))
  | .tuple, [.tuple xs] => some (.pure (.tuple xs))
  | .sum, [.list xs] => (intsOf xs).map fun ns => .pure (.int ns.sum)
  | .max, [.int i, .int j] => some (.pure (.int (if j > i then j else i)))
  | .min, [.int i, .int j] => some (.pure (.int (if j < i then j else i)))
  | .sorted, [.list xs] => if okKeys xs then some (.own (.list (xs.mergeSort (PySem.W.dataLe false fun d => d)))) else none
  | .int, [.int i] => some (.pure (.int i))
  | .int, [.bool b] => some (.pure (.int (if b then 1 else 0)))
  | _, _ => none
/-- isinstance -/
def isiD : Tf -> D -> Bool
  | .str, .str _ => true
  | .bool, .bool _ => true
  | .int, .int _ => true
  | .int, .bool _ => true
  | .list, .list _ => true
  | .tuple, .tuple _ => true
  | _, _ => false
def isiO (T : Tf) (d : D) : Option Rv := if isX d = true then none else some (.pure (.bool (isiD T d)))
/-- a method: what it tells, what its object is then -/
def mthD : Mf -> D -> List D -> Option (Rv × Option D)
  | .append, .list xs, [y] => if xs.length < sizeLine then some (.pure .none, some (.list (xs ++ [y]))) else none
  | .reverse, .list xs, [] => some (.pure .none, some (.list xs.reverse))
  | .get, .dict kvs, [k] => if isX (.dict kvs) = true then none else (keyD k).map fun k => (.pure ((getKV kvs k).getD .none), none)
  | .get, .dict kvs, [k, x] => if isX (.dict kvs) = true then none else (keyD k).map fun k => (.pure ((getKV kvs k).getD x), none)
  | .isupper, .str z, [] => some (.pure (.bool (Txt.isupper z)), none)
  | .count, .list xs, [.bool b] => (boolsOf xs).map fun bs => (.pure (.int ((bs.count b : Nat) : Int)), none)
  | _, _, _ => none
/-- what a method is asked of -/
def okTy : Mf -> D -> Bool
  | .append, .list _ => true
  | .reverse, .list _ => true
  | .get, .dict kvs => !isX (.dict kvs)
  | .isupper, .str _ => true
  | .count, .list _ => true
  | _, _ => false
/-- a store to o[k] -/
def setD (d k v : D) : Option D := match d, k with
  | .list xs, .int i => (ixN xs.length i).map fun j => .list (xs.set j v)
  | .dict kvs, k => (keyD k).bind fun k => if kvs.length < sizeLine then some (.dict (putKV kvs k v)) else none
  | _, _ => none

/-! ### calls -/
inductive CRes where
  | ret (c : Cell) (outs : List Cell) | exc (e : Exn) (outs : List Cell) | no
abbrev Calls := Str -> List Cell -> CRes
inductive Ar where
  | d (d : D) | r (i : Nat)
def arCell (δ : DEnv) : Ar -> Option Cell
  | .d d => some (.pure d)
  | .r i => match δ[i]? with
    | some (.pure d) => some (.pure d)
    | some (.own d) => some (.inp d)
    | some (.inp d) => some (.inp d)
    | _ => none
def arCells (δ : DEnv) : List Ar -> Option (List Cell)
  | [] => some []
  | a :: r => match arCell δ a, arCells δ r with
    | some c, some cs => some (c :: cs)
    | _, _ => none
/-- the slots handed on -/
def refsOf : List Ar -> List Nat
  | [] => []
  | .d _ :: r => refsOf r
  | .r i :: r => i :: refsOf r
/-- behind the call: what the slots handed on hold -/
def backTo1 (c : Cell) (d : D) : Cell := match c with
  | .own _ => .own d
  | .inp _ => .inp d
  | c => c
def putBack : List Ar -> List Cell -> DEnv -> DEnv
  | .r i :: as, .inp d :: cs, δ => putBack as cs (match δ[i]? with
    | some c => δ.set i (backTo1 c d)
    | none => δ)
  | _ :: as, _ :: cs, δ => putBack as cs δ
  | _, _, δ => δ
def callA (Γ : Calls) (f : Str) (as : List Ar) (δ : DEnv) : Out Rv :=
  if (refsOf as).Nodup then match arCells δ as with
    | some cs => match Γ f cs with
      | .ret (.pure d) outs => .ok (.pure d) (putBack as outs δ)
      | .ret (.own d) outs => .ok (.own d) (putBack as outs δ)
      | .exc e outs => .ex e (putBack as outs δ)
      | _ => .no
    | none => .no
  else .no

/-! ### targets -/
mutual
def asgD : CT -> D -> DEnv -> Option DEnv
  | .nm i, d, δ => match δ[i]? with
    | some (.inp _) => none
    | some _ => some (δ.set i (.pure d))
    | none => none
  | .tp ts, .tuple ds, δ => asgDs ts ds δ
  | .tp _, _, _ => none
def asgDs : List CT -> List D -> DEnv -> Option DEnv
  | [], [], δ => some δ
  | t :: ts, d :: ds, δ => match asgD t d δ with
    | some δ' => asgDs ts ds δ'
    | none => none
  | _, _, _ => none
end
mutual
/-- the slots that a target stores to -/
def CT.slots : CT -> List Nat
  | .nm i => [i]
  | .tp ts => slotsOf ts
def slotsOf : List CT -> List Nat
  | [] => []
  | t :: ts => CT.slots t ++ slotsOf ts
end
def wipeE (δ : DEnv) : List Nat -> DEnv
  | [] => δ
  | v :: vs => (wipeE δ vs).set v .emp
def plainAt (δ : DEnv) (i : Nat) : Bool := match δ[i]? with
  | some c => !c.isOwn
  | none => false
/-- the slots own hold what they held ahead -/
def rstE (δ0 δ : DEnv) : List Nat -> DEnv
  | [] => δ
  | v :: vs => (rstE δ0 δ vs).set v (δ0.getD v .emp)

/-! ### loops -/
def lcLoop (one : D -> DEnv -> Out (Option D)) : List D -> List D -> DEnv -> Out (List D)
  | [], acc, δ => .ok acc δ
  | d :: ds, acc, δ => match one d δ with
    | .ok (some y) δ' => if acc.length < sizeLine then lcLoop one ds (acc ++ [y]) δ' else .no
    | .ok none δ' => lcLoop one ds acc δ'
    | _ => .no
inductive Fl where
  | nx | rt (c : Cell) | bk | ct
def forLoop (body : D -> DEnv -> Out Fl) : List D -> DEnv -> Out Fl
  | [], δ => .ok .nx δ
  | d :: ds, δ => match body d δ with
    | .ok .nx δ' => forLoop body ds δ'
    | .ok .ct δ' => forLoop body ds δ'
    | .ok .bk δ' => .ok .nx δ'
    | .ok (.rt c) δ' => .ok (.rt c) δ'
    | .ex e δ' => .ex e δ'
    | .no => .no
def forBody (t : CT) (f : DEnv -> Out Fl) (d : D) (δ : DEnv) : Out Fl := match asgD t d δ with
  | some δ2 => f δ2
  | none => .no
def whileN (test : DEnv -> Out Bool) (body : DEnv -> Out Fl) : Nat -> DEnv -> Out Fl
  | 0, _ => .no
  | n + 1, δ => match test δ with
    | .ok false δ' => .ok .nx δ'
    | .ok true δ' => match body δ' with
      | .ok .nx δ2 => whileN test body n δ2
      | .ok .ct δ2 => whileN test body n δ2
      | .ok .bk δ2 => .ok .nx δ2
      | .ok (.rt c) δ2 => .ok (.rt c) δ2
      | .ex e δ2 => .ex e δ2
      | .no => .no
    | .ex e δ' => .ex e δ'
    | .no => .no

/-! ### expressions -/
section
variable (Γ : Calls) (gl : Str -> Option D)
/-- two values, the first settled -/
def two (δ : DEnv) (r1 r2 : Rv) (k : D -> D -> Option Rv) : Out Rv :=
  match rd δ (settle r1), rd δ r2 with
  | some d1, some d2 => ofO δ (k d1 d2)
  | _, _ => .no
def rdTo {α : Type} (δ : DEnv) (r : Rv) (k : D -> Option α) : Out α :=
  match rd δ r with
  | some d => ofO δ (k d)
  | none => .no
def rngD (lo hi : Int) : List D := (List.range (hi - lo).toNat).map fun (k : Nat) => .int (lo + k)
def rngOk (i : Int) : Bool := sizeB 4611686018427387904 i
theorem rngOk_in {i : Int} (h1 : -4611686018427387904 < i) (h2 : i < 4611686018427387904) : rngOk i = true := sizeB_iff.mpr ⟨by omega, by omega⟩
def zipD (xs ys : List D) : List D := (xs.zip ys).map fun p => .tuple [p.1, p.2]
def itemsD : D -> Option (List D)
  | .list xs => some xs
  | .tuple xs => some xs
  | .str z => some (z.cps.toList.map fun c => .str ⟨#[c]⟩)
  | _ => none
def mthA (m : Mf) (r : Rv) (as : List D) (δ : DEnv) : Out Rv :=
  match rd δ r with
  | some d => match mthD m d as with
    | some (v, none) => .ok v δ
    | some (.pure v, some d') => match r with
      | .bor i => match δ[i]? with
        | some c => if c.isOwn then .ok (.pure v) (δ.set i (backTo1 c d')) else .no
        | none => .no
      | _ => .no
    | some _ => .no
    | none => .no
  | none => .no
def isEmp (δ : DEnv) (i : Nat) : Bool := match δ[i]? with
  | some .emp => true
  | _ => false
def addL {K : Type} [DecidableEq K] (L : List K) (k : K) : List K := if k ∈ L then L else k :: L
def dedL {K : Type} [DecidableEq K] (xs : List K) : List K := xs.foldl addL []
def txtsD : List D -> Option (List Str)
  | [] => some []
  | .str x :: r => (txtsD r).map (x :: ·)
  | _ => none
def sstD : D -> Option Rv
  | .list ds => if ds.length ≤ 1000 then (txtsD ds).map fun xs => .own (.list ((srtS (dedL xs)).map PyData.str)) else none
  | _ => none
def keysD (Γ : Calls) (f : Str) : List D -> Option (List D)
  | [] => some []
  | d :: r => match Γ f [.pure d] with
    | .ret (.pure k) _ => (keysD Γ f r).map (k :: ·)
    | _ => none
def srtD (Γ : Calls) (f : Str) : D -> Option Rv
  | .list ds => match keysD Γ f ds with
    | some ks => if okKeys ks then some (.own (.list (srtK ds ks))) else none
    | none => none
  | _ => none
mutual
def evalE : CE -> DEnv -> Out Rv
  | .slot i, δ => match δ[i]? with
    | some .emp => .no
    | some _ => .ok (.bor i) δ
    | none => .no
  | .con d, δ => .ok (.pure d) δ
  | .glb x, δ => ofO δ ((gl x).map .pure)
  | .bin op a b, δ => (evalE a δ).bind fun r1 δ1 => (evalE b δ1).bind fun r2 δ2 => two δ2 r1 r2 (binD op)
  | .neg a, δ => (evalE a δ).bind fun r δ1 => rdTo δ1 r fun
    | .int i => some (.pure (.int (-i)))
    | _ => none
  | .cmp op a b, δ => (evalE a δ).bind fun r1 δ1 => (evalE b δ1).bind fun r2 δ2 => two δ2 r1 r2 fun d e => (cmpD op d e).map fun b => .pure (.bool b)
  | .cmp2 o p a b c, δ => (evalE a δ).bind fun r1 δ1 => (evalE b δ1).bind fun r2 δ2 =>
      match rd δ2 (settle r1), rd δ2 r2 with
      | some d1, some d2 => match cmpD o d1 d2 with
        | some false => .ok (.pure (.bool false)) δ2
        | some true => (evalE c δ2).bind fun r3 δ3 => two δ3 r2 r3 fun d e => (cmpD p d e).map fun b => .pure (.bool b)
        | none => .no
      | _, _ => .no
  | .nt a, δ => (evalE a δ).bind fun r δ1 => rdTo δ1 r fun
    | .bool b => some (.pure (.bool (!b)))
    | _ => none
  | .an a b, δ => (evalE a δ).bind fun r δ1 => match rd δ1 r with
    | some (.bool true) => evalE b δ1
    | some (.bool false) => .ok (.pure (.bool false)) δ1
    | _ => .no
  | .orr a b, δ => (evalE a δ).bind fun r δ1 => match rd δ1 r with
    | some (.bool true) => .ok (.pure (.bool true)) δ1
    | some (.bool false) => evalE b δ1
    | _ => .no
  | .ife c a b, δ => (evalT c δ).bind fun t δ1 => if t = true then evalE a δ1 else evalE b δ1
  | .tup es, δ => (evalEs es δ).bind fun ds δ1 => if ds.length ≤ sizeLine then .ok (.pure (.tuple ds)) δ1 else .no
  | .lst es, δ => (evalEs es δ).bind fun ds δ1 => if ds.length ≤ sizeLine then .ok (.own (.list ds)) δ1 else .no
  | .idx a i, δ => (evalE a δ).bind fun r1 δ1 => (evalE i δ1).bind fun r2 δ2 => two δ2 r1 r2 fun d k => (idxD d k).map .pure
  | .slc a lo hi, δ => (evalE a δ).bind fun r1 δ1 => (evalO lo δ1).bind fun l δ2 => (evalO hi δ2).bind fun u δ3 =>
      rdTo δ3 (settle r1) fun d => slcD d l u
  | .call f as, δ => (evalAs as δ).bind fun ars δ1 => callA Γ f ars δ1
  | .blt f as, δ => (evalRs as δ).bind fun rs δ1 => match rs.mapM (rd δ1) with
    | some ds => ofO δ1 (bltD f ds)
    | none => .no
  | .isi a T, δ => (evalE a δ).bind fun r δ1 => rdTo δ1 r (isiO T)
  | .ixc a yes no, δ => (evalE a δ).bind fun r δ1 => rdTo δ1 r (isxD yes no)
  | .srt a f, δ => (evalE a δ).bind fun r δ1 => rdTo δ1 r (srtD Γ f)
  | .lrv a, δ => (evalE a δ).bind fun r δ1 => rdTo δ1 r revD
  | .sst a, δ => (evalE a δ).bind fun r δ1 => rdTo δ1 r sstD
  | .sit a, δ => (evalE a δ).bind fun r δ1 => rdTo δ1 r sitD
  | .sky a, δ => (evalE a δ).bind fun r δ1 => rdTo δ1 r skyD
  | .dsp es, δ => (evalEs es δ).bind fun ds δ1 => match pairUp ds with
    | some ps => if ps.length ≤ 15 then .ok (.own (.dict (mergeKV [] ps))) δ1 else .no
    | none => .no
  | .mth m o as, δ => (evalE o δ).bind fun r δ1 => match rd δ1 r with
    | some d => if okTy m d then (evalEs as δ1).bind fun ds δ2 => mthA m (settle r) ds δ2 else .no
    | none => .no
  | .lc elt tg it cond own, δ => (evalI it δ).bind fun ds δ1 =>
      if own.all (plainAt δ1) && tg.slots.all (own.contains ·) then
        match lcLoop (fun d δ => match asgD tg d δ with
          | some δ2 => (evalC cond δ2).bind fun b δ3 => if b = true then (evalE elt δ3).bind fun r δ4 => (esc r δ4).bind fun y δ5 => .ok (some y) (wipeE δ5 own) else .ok none (wipeE δ3 own)
          | none => .no) ds [] (wipeE δ1 own) with
        | .ok ys δ2 => .ok (.own (.list ys)) (rstE δ1 δ2 own)
        | _ => .no
      else .no
def evalT : CE -> DEnv -> Out Bool
  | .nt a, δ => (evalT a δ).bind fun b δ1 => .ok (!b) δ1
  | .an a b, δ => (evalT a δ).bind fun t δ1 => if t = true then evalT b δ1 else .ok false δ1
  | .orr a b, δ => (evalT a δ).bind fun t δ1 => if t = true then .ok true δ1 else evalT b δ1
  | c, δ => (evalE c δ).bind fun r δ1 => rdTo δ1 r truthD
/-- an optional part: a number -/
def evalO : CO -> DEnv -> Out (Option Int)
  | .non, δ => .ok none δ
  | .som e, δ => (evalE e δ).bind fun r δ1 => rdTo δ1 r fun
    | .int i => some (some i)
    | _ => none
/-- an optional test -/
def evalC : CO -> DEnv -> Out Bool
  | .non, δ => .ok true δ
  | .som e, δ => evalT e δ
/-- data -/
def evalEs : CEs -> DEnv -> Out (List D)
  | .nil, δ => .ok [] δ
  | .cons e r, δ => (evalE e δ).bind fun v δ1 => (esc v δ1).bind fun d δ2 => (evalEs r δ2).bind fun ds δ3 => .ok (d :: ds) δ3
/-- values, settled -/
def evalRs : CEs -> DEnv -> Out (List Rv)
  | .nil, δ => .ok [] δ
  | .cons e r, δ => (evalE e δ).bind fun v δ1 => (evalRs r δ1).bind fun vs δ2 => .ok (settle v :: vs) δ2
def evalAs : CAs -> DEnv -> Out (List Ar)
  | .nil, δ => .ok [] δ
  | .val e r, δ => (evalE e δ).bind fun v δ1 => (esc v δ1).bind fun d δ2 => (evalAs r δ2).bind fun ds δ3 => .ok (.d d :: ds) δ3
  | .ref i r, δ => match δ[i]? with
    | some .emp => .no
    | some _ => (evalAs r δ).bind fun ds δ3 => .ok (.r i :: ds) δ3
    | none => .no
def evalI : CI -> DEnv -> Out (List D)
  | .val e, δ => (evalE e δ).bind fun v δ1 => (esc v δ1).bind fun d δ2 => ofO δ2 (itemsD d)
  | .rng1 a, δ => (evalE a δ).bind fun v δ1 => rdTo δ1 v fun
    | .int i => if rngOk i then some (rngD 0 i) else none
    | _ => none
  | .rng2 a b, δ => (evalE a δ).bind fun v δ1 => (evalE b δ1).bind fun w δ2 => match rd δ2 (settle v), rd δ2 w with
    | some (.int i), some (.int j) => if rngOk i && rngOk j then .ok (rngD i j) δ2 else .no
    | _, _ => .no
  | .zp a b, δ => (evalE a δ).bind fun v δ1 => (evalE b δ1).bind fun w δ2 => match rd δ2 (settle v), rd δ2 w with
    | some (.tuple xs), some (.tuple ys) => .ok (zipD xs ys) δ2
    | _, _ => .no
end
def noInp (δ : DEnv) (i : Nat) : Bool := match δ[i]? with
  | some (.inp _) => false
  | some _ => true
  | none => false
def ddkE (Γ : Calls) (gl : Str -> Option D) (i j : Nat) (it : CI) (f : Str) (δ : DEnv) : Out Fl :=
  if isEmp δ i && (isEmp δ j && decide (i ≠ j)) then match evalI Γ gl it δ with
    | .ok ds δ1 => if isEmp δ1 i && isEmp δ1 j then match ddD ds [] with
      | some us => match srtD Γ f (.list (us.map (·.2))) with
        | some (.own d) => .ok (.rt (.own d)) δ1
        | _ => .no
      | none => .no
      else .no
    | _ => .no
  else .no
/-- a value that a def hands back -/
def retV : Rv -> DEnv -> Out Fl
  | .pure d, δ => .ok (.rt (.pure d)) δ
  | .own d, δ => .ok (.rt (.own d)) δ
  | .bor i, δ => match δ[i]? with
    | some (.pure d) => .ok (.rt (.pure d)) δ
    | some (.own d) => .ok (.rt (.own d)) (δ.set i .emp)
    | _ => .no
def asgC (i : Nat) (c : Cell) (δ : DEnv) : Out Fl := match δ[i]? with
  | some (.inp _) => .no
  | some _ => .ok .nx (δ.set i c)
  | none => .no
def hasV (δ : DEnv) (i : Nat) : Bool := match δ[i]? with
  | some .emp => false
  | some _ => true
  | none => false
def setC (i : Nat) (k v : D) (δ : DEnv) : Out Fl := match δ[i]? with
  | some c => if c.isOwn then match c.rd with
    | some d => match setD d k v with
      | some d' => .ok .nx (δ.set i (backTo1 c d'))
      | none => .no
    | none => .no
    else .no
  | none => .no
def augOk : Operator -> D -> D -> Bool
  | .Add, .int _, .int _ => true
  | .Sub, .int _, .int _ => true
  | .Mult, .int _, .int _ => true
  | .FloorDiv, .int _, .int _ => true
  | .Mod, .int _, .int _ => true
  | .Add, .str _, .str _ => true
  | _, _, _ => false
variable (W : Nat)
mutual
def execS : CS -> DEnv -> Out Fl
  | .expr e, δ => (evalE Γ gl e δ).bind fun _ δ1 => .ok .nx δ1
  | .asg i e, δ => (evalE Γ gl e δ).bind fun r δ1 => (tk r δ1).bind fun c δ2 => asgC i c δ2
  | .asgT t e, δ => (evalE Γ gl e δ).bind fun r δ1 => (esc r δ1).bind fun d δ2 => ofO' δ2 (asgD t d δ2)
  | .seti i k e, δ => (evalE Γ gl e δ).bind fun r δ1 => (esc r δ1).bind fun v δ2 => if hasV δ2 i then (evalE Γ gl k δ2).bind fun rk δ3 => match rd δ3 rk with
    | some k => setC i k v δ3
    | none => .no
    else .no
  | .aug i op e, δ => match δ[i]? with
    | some (.pure d0) => (evalE Γ gl e δ).bind fun r δ1 => match rd δ1 r with
      | some d1 => if augOk op d0 d1 then match binD op d0 d1 with
        | some (.pure d) => asgC i (.pure d) δ1
        | _ => .no
        else .no
      | none => .no
    | _ => .no
  | .ifs c t e, δ => (evalT Γ gl c δ).bind fun b δ1 => if b = true then execSs t δ1 else execSs e δ1
  | .whl c b, δ => whileN (evalT Γ gl c) (execSs b) W δ
  | .fr t it b, δ => (evalI Γ gl it δ).bind fun ds δ1 => forLoop (forBody t (execSs b)) ds δ1
  | .ret e, δ => (evalE Γ gl e δ).bind fun r δ1 => retV r δ1
  | .retN, δ => .ok (.rt (.pure .none)) δ
  | .pass, δ => .ok .nx δ
  | .brk, δ => .ok .bk δ
  | .cont, δ => .ok .ct δ
  | .nev, δ => .no
  | .ddk i j it f, δ => ddkE Γ gl i j it f δ
  | .rais c e, δ => (evalE Γ gl e δ).bind fun _ δ1 => .ex ⟨c, none⟩ δ1
  | .tryx b yes no i j, δ => match execSs b δ with
    | .ok f δ1 => .ok f δ1
    | .ex e δ1 => match e.arg with
      | none => if yes.contains e.cls = true then (if decide (i ≠ j) && (noInp δ1 i && noInp δ1 j) then .ok .nx ((δ1.set j (.pure (excD e.cls))).set i .emp) else .no) else if no.contains e.cls = true then .ex e δ1 else .no
      | some _ => .no
    | .no => .no
where ofO' (δ : DEnv) : Option DEnv -> Out Fl
  | some δ' => .ok .nx δ'
  | none => .no
def execSs : CSs -> DEnv -> Out Fl
  | .nil, δ => .ok .nx δ
  | .cons s r, δ => (execS s δ).bind fun f δ1 => match f with
    | .nx => execSs r δ1
    | f => .ok f δ1
end
end
/-- a def -/
structure CDef where
  ps : List Str
  N : List Str
  body : CSs
def outsOf (n : Nat) (δ : DEnv) : List Cell := δ.take n
def runBody (Γ : Calls) (gl : Str -> Option D) (W : Nat) (d : CDef) (args : List Cell) : CRes :=
  if args.length = d.ps.length then match execSs Γ gl W d.body (args ++ List.replicate (d.N.length - args.length) .emp) with
    | .ok (.rt c) δ => .ret c (outsOf d.ps.length δ)
    | .ok .nx δ => .ret (.pure .none) (outsOf d.ps.length δ)
    | .ex e δ => .exc e (outsOf d.ps.length δ)
    | _ => .no
  else .no
def callD (tab : Str -> Option CDef) (gl : Str -> Option D) (W : Nat) : Nat -> Calls
  | 0 => fun _ _ => .no
  | n + 1 => fun f args => match tab f with
    | some d => runBody (callD tab gl W n) gl W d args
    | none => .no
end DE

/-! DE3: from the text's own syntax to the compiled one. -/
namespace DE
open PySem PySem.Spec PyProof.Rows L2

/-- classes: those that are raised; of each asked one: own, the raised that are it, the raised that are not -/
structure ExT where
  exs : List Str
  cls : List (Str × Bool × List Str × List Str)
/-- where a text stands: its names by slots, the scope that runs, the scope as written; the defs (with the places handed on by reference), the constants -/
structure CC where
  N : List Str
  sc : Scope
  os : Scope
  fns : List (Str × List Nat)
  gls : List Str
  ex : ExT
def idxOf (x : Str) : List Str -> Option Nat
  | [] => none
  | y :: r => if y = x then some 0 else (idxOf x r).map (· + 1)
theorem idxOf_get : ∀ {x : Str} {N : List Str} {i : Nat}, idxOf x N = some i -> N[i]? = some x
  | x, [], i, h => by cases h
  | x, y :: r, i, h => by
    unfold idxOf at h
    split at h
    · rename_i e; cases h; rw [e]; rfl
    · cases q : idxOf x r with
      | none => rw [q] at h; cases h
      | some j => rw [q] at h; cases h; rw [List.getElem?_cons_succ]; exact idxOf_get q
def visC (sc : Scope) (x : Str) : Bool := match sc.names.lookup x with
  | some .local => true
  | some .cell => true
  | some .free => true
  | _ => false
def locC (sc : Scope) (x : Str) : Bool := match sc.names.lookup x with
  | some .local => true
  | some .cell => true
  | _ => false
def gloC (sc : Scope) (x : Str) : Bool := match sc.names.lookup x with
  | some .globalImplicit => true
  | _ => false
theorem vis_of {sc : Scope} {x : Str} (h : visC sc x = true) : Vis sc x := by
  unfold visC at h
  split at h <;> first | exact .inl (by assumption) | exact .inr (.inl (by assumption)) | exact .inr (.inr (by assumption)) | cases h
theorem loc_of {sc : Scope} {x : Str} (h : locC sc x = true) : Loc sc x := by
  unfold locC at h
  split at h <;> first | exact .inl (by assumption) | exact .inr (by assumption) | cases h
theorem glo_of {sc : Scope} {x : Str} (h : gloC sc x = true) : sc.names.lookup x = some .globalImplicit := by
  unfold gloC at h
  split at h
  · assumption
  · cases h
def okName (x : Str) : Bool := !(x == ("__debug__" : Str)) && !(x == ("__classdict__" : Str)) && !(x == ("__name__" : Str))
/-- a name's slot -/
def CC.slot (c : CC) (x : Str) : Option Nat := if visC c.sc x && okName x then idxOf x c.N else none
/-- a name that is stored -/
def CC.st (c : CC) (x : Str) : Option Nat := if locC c.sc x && (locC c.os x && okName x) then idxOf x c.N else none
def noStar : Expr -> Bool
  | .Starred .. => false
  | _ => true
def noSlice : Expr -> Bool
  | .Slice .. => false
  | _ => true
def noSet : Expr -> Bool
  | .Set .. => false
  | _ => true
def noComp : Expr -> Bool
  | .ListComp .. => false
  | .SetComp .. => false
  | .DictComp .. => false
  | _ => true
/-- an object of a method's call: no bare call of a name -/
def noSuper : Expr -> Bool
  | .Call (.Name _ _) [] [] _ => false
  | _ => true
def conC : Const -> Option D
  | .none => some .none
  | .bool b => some (.bool b)
  | .int i => some (.int i)
  | .str x => some (.str x)
  | _ => none
def cmpOk : CmpOp -> Expr -> Bool
  | _, e => noSet e
def tfOf (T : Str) : Option Tf :=
  if T = "str" then some .str else if T = "bool" then some .bool else if T = "int" then some .int else if T = "list" then some .list else if T = "tuple" then some .tuple else none
def Tf.nm : Tf -> String
  | .str => "str" | .bool => "bool" | .int => "int" | .list => "list" | .tuple => "tuple"
theorem tfOf_eq {T : Str} {t : Tf} (h : tfOf T = some t) : T = Str.ofString t.nm := by
  unfold tfOf at h
  repeat (split at h; (· cases h; assumption))
  cases h
def bfOf (f : Str) : Option Bf :=
  if f = "len" then some .len else if f = "abs" then some .abs else if f = "all" then some .all else if f = "any" then some .any else if f = "int" then some .int else if f = "list" then some .list else if f = "tuple" then some .tuple else if f = "sum" then some .sum else if f = "max" then some .max else if f = "min" then some .min else if f = "sorted" then some .sorted else if f = "dict" then some .dict else none
def Bf.nm : Bf -> String
  | .len => "len" | .abs => "abs" | .all => "all" | .any => "any" | .int => "int" | .list => "list" | .tuple => "tuple" | .sum => "sum" | .max => "max" | .min => "min" | .sorted => "sorted" | .dict => "dict"
theorem bfOf_eq {f : Str} {b : Bf} (h : bfOf f = some b) : f = Str.ofString b.nm := by
  unfold bfOf at h
  repeat (split at h; (· cases h; assumption))
  cases h
def mfOf (m : Str) : Option Mf :=
  if m = "append" then some .append else if m = "reverse" then some .reverse else if m = "get" then some .get else if m = "isupper" then some .isupper else if m = "count" then some .count else none
def Mf.nm : Mf -> String
  | .append => "append" | .reverse => "reverse" | .get => "get" | .isupper => "isupper" | .count => "count"
theorem mfOf_eq {f : Str} {b : Mf} (h : mfOf f = some b) : f = Str.ofString b.nm := by
  unfold mfOf at h
  repeat (split at h; (· cases h; assumption))
  cases h
/-- the built-in names that the module must not bind -/
def allB : List Str := ["str", "bool", "int", "list", "tuple", "len", "abs", "all", "any", "isinstance", "range", "sum", "max", "min", "sorted", "reversed", "dict", "zip", "set"]
def noIf : Expr -> Bool
  | .IfExp .. => false
  | _ => true
def noTup : Expr -> Bool
  | .Tuple .. => false
  | _ => true
/-- a comprehension's own names, by slots -/
def ownOf (N : List Str) : List (Str × NameKind) -> List (Str × Nat)
  | [] => []
  | (x, k) :: r => if k = .local ∨ k = .cell then match idxOf x N with
    | some i => (x, i) :: ownOf N r
    | none => ownOf N r
    else ownOf N r
mutual
def compT (c : CC) : Nat -> Expr -> Option CT
  | 0, _ => none
  | n + 1, e => match e with
    | .Name x _ => (c.st x).map .nm
    | .Tuple es _ _ => (compTs c n es).map .tp
    | _ => none
def compTs (c : CC) : Nat -> List Expr -> Option (List CT)
  | 0, _ => none
  | n + 1, es => match es with
    | [] => some []
    | e :: r => match noStar e, compT c n e, compTs c n r with
      | true, some t, some ts => some (t :: ts)
      | _, _, _ => none
end
def anR : CE -> List CE -> CE
  | a, [] => a
  | a, b :: r => .an a (anR b r)
def orR : CE -> List CE -> CE
  | a, [] => a
  | a, b :: r => .orr a (orR b r)
def isTup : Expr -> Bool
  | .Tuple .. => true
  | _ => false
mutual
def compE (c : CC) : Nat -> Expr -> Option CE
  | 0, _ => none
  | n + 1, e => match e with
    | .Name x _ => match c.slot x with
      | some i => some (.slot i)
      | none => if gloC c.sc x && (okName x && c.gls.contains x) then some (.glb x) else none
    | .Constant k _ _ => (conC k).map .con
    | .BinOp a op b _ => match compE c n a, compE c n b with
      | some x, some y => some (.bin op x y)
      | _, _ => none
    | .UnaryOp .USub a _ => (compE c n a).map .neg
    | .UnaryOp .Not a _ => if noIf a then (compE c n a).map .nt else none
    | .BoolOp .And es _ => compAn c n es
    | .BoolOp .Or es _ => compOr c n es
    | .Compare a [op] [b] _ => match noSet b, compE c n a, compE c n b with
      | true, some x, some y => some (.cmp op x y)
      | _, _, _ => none
    | .Compare a [o, p] [b, d] _ => match noSet b && noSet d, compE c n a, compE c n b, compE c n d with
      | true, some x, some y, some z => some (.cmp2 o p x y z)
      | _, _, _, _ => none
    | .IfExp t a b _ => match noIf t, compE c n t, compE c n a, compE c n b with
      | true, some x, some y, some z => some (.ife x y z)
      | _, _, _, _ => none
    | .Tuple es _ _ => (compEs c n es).map .tup
    | .List es _ => (compEs c n es).map .lst
    | .Dict ks vs _ => if ks.all (·.isSome) && (decide (ks.length = vs.length) && decide (ks.length ≤ 15)) then (compPs c n ks vs).map .dsp else none
    | .Subscript a (.Slice lo hi none _) _ => match compE c n a, compO c n lo, compO c n hi with
      | some x, some l, some h => some (.slc x l h)
      | _, _, _ => none
    | .Subscript a i _ => match noSlice i, compE c n a, compE c n i with
      | true, some x, some y => some (.idx x y)
      | _, _, _ => none
    | .Call (.Name f _) as [] _ => if gloC c.sc f && okName f then compCall c n f as else none
    | .Call (.Attribute o m ap) as [] cp => match noSuper o && (ap.endLine == cp.line && decide (as.length < 30)), mfOf m, compE c n o, compEs c n as with
      | true, some f, some x, some ys => some (.mth f x ys)
      | _, _, _, _ => none
    | .Call (.Name f _) [a] [⟨some kw, .Name g _, _⟩] _ => if f = "sorted" ∧ kw = "key" then match gloC c.sc f && (gloC c.sc g && (okName g && noStar a)), c.fns.lookup g, compE c n a with
        | true, some _, some x => some (.srt x g)
        | _, _, _ => none
      else none
    | .ListComp elt [⟨tg, it, ifs, 0⟩] scope _ => compLc c n elt tg it ifs scope
    | _ => none
def compCall (c : CC) : Nat -> Str -> List Expr -> Option CE
  | 0, _, _ => none
  | n + 1, f, as => match c.fns.lookup f with
    | some io => (compAs c n 0 io as).map (.call f)
    | none => match as with
      | [a, .Name T _] => if f = "isinstance" then match tfOf T, gloC c.sc T && noStar a, compE c n a with
          | some t, true, some x => some (.isi x t)
          | none, true, some x => match c.ex.cls.lookup T with
            | some (own, yes, no) => if okName T && (own || decide (T = "ValueError")) then some (.ixc x yes no) else none
            | none => none
          | _, _, _ => none
        else match bfOf f, compEs c n as with
          | some b, some xs => some (.blt b xs)
          | _, _ => none
      | [] => none
      | [.Call (.Attribute o m ap) [] [] cp] => if f = "sorted" ∧ (m = "items" ∨ m = "keys") then match noSuper o && (ap.endLine == cp.line), compE c n o with
          | true, some x => some (if m = "items" then .sit x else .sky x)
          | _, _ => none
        else match bfOf f, compEs c n as with
          | some b, some xs => some (.blt b xs)
          | _, _ => none
      | [.Call (.Name g _) [a] [] _] => if f = "list" ∧ g = "reversed" then match gloC c.sc g && noStar a, compE c n a with
          | true, some x => some (.lrv x)
          | _, _ => none
        else if f = "sorted" ∧ g = "set" then match gloC c.sc g && noStar a, compE c n a with
          | true, some x => some (.sst x)
          | _, _ => none
        else match bfOf f, compEs c n as with
          | some b, some xs => some (.blt b xs)
          | _, _ => none
      | _ => match bfOf f, compEs c n as with
        | some b, some xs => some (.blt b xs)
        | _, _ => none
def compAn (c : CC) : Nat -> List Expr -> Option CE
  | 0, _ => none
  | n + 1, es => match es with
    | [a] => if noIf a then compE c n a else none
    | a :: b :: r => match noIf a, compE c n a, compAn c n (b :: r) with
      | true, some x, some y => some (.an x y)
      | _, _, _ => none
    | [] => none
def compOr (c : CC) : Nat -> List Expr -> Option CE
  | 0, _ => none
  | n + 1, es => match es with
    | [a] => if noIf a then compE c n a else none
    | a :: b :: r => match noIf a, compE c n a, compOr c n (b :: r) with
      | true, some x, some y => some (.orr x y)
      | _, _, _ => none
    | [] => none
def compEs (c : CC) : Nat -> List Expr -> Option CEs
  | 0, _ => none
  | n + 1, es => match es with
    | [] => some .nil
    | e :: r => match noStar e, compE c n e, compEs c n r with
      | true, some x, some xs => some (.cons x xs)
      | _, _, _ => none
def compPs (c : CC) : Nat -> List (Option Expr) -> List Expr -> Option CEs
  | 0, _, _ => none
  | n + 1, ks, vs => match ks, vs with
    | [], [] => some .nil
    | some k :: ks, v :: vs => match compE c n k, compE c n v, compPs c n ks vs with
      | some x, some y, some r => some (.cons x (.cons y r))
      | _, _, _ => none
    | _, _ => none
def compAs (c : CC) : Nat -> Nat -> List Nat -> List Expr -> Option CAs
  | 0, _, _, _ => none
  | n + 1, j, io, es => match es with
    | [] => some .nil
    | e :: r => match noStar e, compA1 c n (io.contains j) e, compAs c n (j + 1) io r with
      | true, some (.inl x), some xs => some (.val x xs)
      | true, some (.inr i), some xs => some (.ref i xs)
      | _, _, _ => none
def compA1 (c : CC) : Nat -> Bool -> Expr -> Option (CE ⊕ Nat)
  | 0, _, _ => none
  | n + 1, b, e => match b, e with
    | true, .Name x _ => (c.slot x).map .inr
    | _, e => (compE c n e).map .inl
def compO (c : CC) : Nat -> Option Expr -> Option CO
  | 0, _ => none
  | n + 1, o => match o with
    | none => some .non
    | some e => (compE c n e).map .som
def compI (c : CC) : Nat -> Bool -> Expr -> Option CI
  | 0, _, _ => none
  | n + 1, tup, e => match e with
    | .Call (.Name f _) [a] [] _ => if f = "range" then if gloC c.sc f && noStar a then (compE c n a).map .rng1 else none else (compE c n e).map .val
    | .Call (.Name f _) [a, b] [] _ => if f = "range" then
        if gloC c.sc f && (noStar a && noStar b) then match compE c n a, compE c n b with
          | some x, some y => some (.rng2 x y)
          | _, _ => none
        else none
      else if f = "zip" then
        if tup && (gloC c.sc f && (noStar a && noStar b)) then match compE c n a, compE c n b with
          | some x, some y => some (.zp x y)
          | _, _ => none
        else none
      else (compE c n e).map .val
    | _ => (compE c n e).map .val
def compLc (c : CC) : Nat -> Expr -> Expr -> Expr -> List Expr -> Scope -> Option CE
  | 0, _, _, _, _, _ => none
  | n + 1, elt, tg, it, ifs, scope =>
    if noSet it && blkC c.N c.sc scope (ownOf c.N scope.names) then
      match compI c n (isTup tg) it, compT { c with sc := relS scope c.sc, os := scope } n tg, compE { c with sc := relS scope c.sc, os := scope } n elt, compIfs { c with sc := relS scope c.sc, os := scope } n ifs with
      | some i, some t, some x, some o => some (.lc x t i o ((ownOf c.N scope.names).map (·.2)))
      | _, _, _, _ => none
    else none
def compIfs (c : CC) : Nat -> List Expr -> Option CO
  | 0, _ => none
  | n + 1, es => match es with
    | [] => some .non
    | [e] => match noIf e, compE c n e with
      | true, some x => some (.som x)
      | _, _ => none
    | _ => none
end
/-- the def's own scope has the names of its block -/
def swC (c : CC) (y : Str) (py : Pos) (e : Expr) : Bool := match e with
  | .ListComp _ _ scope pos => (match c.sc.kind with | .function => true | _ => false) && (match c.sc.names.lookup y with | some .local => true | _ => false) && ((py.line == pos.line) && !(scope.names.any fun (n, k) => n == y && (k == .local || k == .cell)))
  | _ => false
def locN (sc : Scope) (x : Str) : Bool := match sc.names.lookup x with
  | some .local => true
  | _ => false
/-- d = {}, then d[x] = True of each x walked, then the keys sorted by a def -/
def compDd (c : CC) (n : Nat) : List Stmt -> Option CS
  | [.Assign [.Name y _] (.Dict [] [] _) _, .For (.Name z _) it [.Assign [.Subscript (.Name y2 _) (.Name z2 _) _] (.Constant (.bool true) _ _) _] [] _, .Return (some (.Call (.Name f _) [.Call (.Attribute (.Name y3 _) m ap) [] [] cp] [⟨some kw, .Name g _, _⟩] _)) _] =>
    if (y2 = y ∧ y3 = y ∧ z2 = z) ∧ (f = "sorted" ∧ m = "keys" ∧ kw = "key") then
      match c.st y, c.slot y, c.st z, c.slot z, compI c n false it, c.fns.lookup g, noSet it && (gloC c.sc "sorted" && (gloC c.sc g && (okName g && (ap.endLine == cp.line)))) with
      | some i, some _, some j, some _, some t, some _, true => some (.ddk i j t g)
      | _, _, _, _, _, _, _ => none
    else none
  | _ => none
def compTest (c : CC) (n : Nat) (e : Expr) : Option CE := if noIf e then compE c n e else none
mutual
def compS (c : CC) : Nat -> Stmt -> Option CS
  | 0, _ => none
  | n + 1, s => match s with
    | .Expr e _ => if noComp e then (compE c n e).map .expr else none
    | .Assign [.Name y py] e _ => match swC c y py e || noComp e, c.st y, compE c n e with
      | true, some i, some x => some (.asg i x)
      | _, _, _ => none
    | .Assign [.Tuple ts k p] e _ => match noTup e && noComp e, compT c n (.Tuple ts k p), compE c n e with
      | true, some t, some x => some (.asgT t x)
      | _, _, _ => none
    | .Assign [.Subscript (.Name y _) k _] e _ => match noSlice k && noComp e, c.slot y, compE c n k, compE c n e with
      | true, some i, some x, some v => some (.seti i x v)
      | _, _, _, _ => none
    | .AugAssign (.Name y _) op e _ => match c.st y, compE c n e with
      | some i, some x => some (.aug i op x)
      | _, _ => none
    | .If t a b _ => match compTest c n t, compSs c n a, compSs c n b with
      | some x, some y, some z => some (.ifs x y z)
      | _, _, _ => none
    | .While t a [] _ => match compTest c n t, compSs c n a with
      | some x, some y => some (.whl x y)
      | _, _ => none
    | .For t it a [] _ => match compT c n t, noSet it, compI c n (isTup t) it, compSs c n a with
      | some x, true, some y, some z => some (.fr x y z)
      | _, _, _, _ => none
    | .Return (some e) _ => (compE c n e).map .ret
    | .Return none _ => some .retN
    | .Pass _ => some .pass
    | .Break _ => some .brk
    | .Continue _ => some .cont
    | .Raise (some (.Call (.Name C _) [e] [] _)) none _ => if c.ex.exs.contains C && (gloC c.sc C && (okName C && noStar e)) then match compE c n e with
        | some x => some (.rais C x)
        | none => some .nev
      else some .nev
    | .Raise _ _ _ => some .nev
    | .Try body [.ExceptHandler (some (.Name C _)) (some nm) [.Assign [.Name y _] (.Name nm2 _) _] _] [] [] _ =>
      if nm2 = nm ∧ (gloC c.sc C && (okName C && locN c.sc nm)) = true then match c.st nm, c.slot nm, c.st y, compSs c n body, c.ex.cls.lookup C with
        | some i, some _, some j, some b, some (true, yes, no) => some (.tryx b yes no i j)
        | _, _, _, _, _ => none
      else none
    | _ => none
def compSs (c : CC) : Nat -> List Stmt -> Option CSs
  | 0, _ => none
  | n + 1, ss => match ss with
    | [] => some .nil
    | s :: r => match compDd c n (s :: r) with
      | some x => some (.cons x .nil)
      | none => match compS c n s, compSs c n r with
        | some x, some xs => some (.cons x xs)
        | _, _ => none
end
/-- the names of a def by slots: its parameters, its other own names, its comprehensions' names -/
def fnScopeB (N ps : List Str) (sc : Scope) : Bool :=
  (match sc.kind with | .function => true | _ => false) && (!sc.isCoroutine && (!sc.isGenerator && (decide N.Nodup && (decide (N.take ps.length = ps) && (ps.all (fun x => locC sc x) && sc.names.all fun y => decide (y.2 ≠ .free))))))
theorem fnScope_of {N ps : List Str} {sc : Scope} (h : fnScopeB N ps sc = true) : FnScope N ps sc := by
  unfold fnScopeB at h
  simp only [Bool.and_eq_true, Bool.not_eq_true', decide_eq_true_eq, List.all_eq_true] at h
  obtain ⟨h1, h2, h3, h4, h5, h6, h7⟩ := h
  refine ⟨?_, h2, h3, h4, h5, fun x hx => loc_of (h6 x hx), h7⟩
  split at h1
  · assumption
  · cases h1
end DE

/-! DE4: operations by values keep what the data tell. -/
namespace DE
open PySem PySem.Spec PyProof.Rows L2

/-- the heap and the still part grow by new objects -/
structure Grw (F H F' H' : Hp) : Prop where
  f : Same F F'
  s : Same F' H'
  h : Same H H'
  n : ∀ a, F a = none -> F' a ≠ none -> H a = none
theorem Grw.refl {F H : Hp} (s : Same F H) : Grw F H F H := ⟨Same.refl _, s, Same.refl _, fun _ a b => absurd a b⟩
theorem Grw.still {F H : Hp} (s : Same F H) {p : Addr} {o : HO} (n : H p = none) : Grw F H (upd F p o) (upd H p o) :=
  ⟨same_upd (s.free n), same_upd2 s, same_upd n, fun a z w => by
    by_cases q : a = p
    · rw [q]; exact n
    · rw [upd_ne q] at w; exact absurd z w⟩
theorem Grw.beside {F H : Hp} (s : Same F H) {p : Addr} {o : HO} (n : H p = none) : Grw F H F (upd H p o) :=
  ⟨Same.refl _, same_updR s (s.free n), same_upd n, fun _ a b => absurd a b⟩
/-- a result beside a growth -/
def ResN (K : PySem.W.Frag) (H F' H' : Hp) (u : V) : Rv -> Prop
  | .pure d => Dat K F' u d
  | .own d => ∃ a, u = .ref a ∧ OwnAt K F' H' a d ∧ F' a = none ∧ H a = none
  | .bor _ => False
theorem Rel.grw {K : PySem.W.Frag} {x : Fx} {F H F' H' : Hp} {σ : L2.St} {δ : DEnv} (R : Rel K x F σ H δ) (g : Grw F H F' H') : Rel K x F' σ H' δ := R.grow g.f g.s g.h g.n
theorem Rel.resN {K : PySem.W.Frag} {x : Fx} {F H F' H' : Hp} {σ : L2.St} {δ : DEnv} {u : V} {r : Rv} (R : Rel K x F σ H δ) (h : ResN K H F' H' u r) : ResV K x F' H' σ δ u r := by
  cases r with
  | pure d => exact h
  | bor i => exact h.elim
  | own d =>
    obtain ⟨a, rfl, o, nF, nH⟩ := h
    refine ⟨a, rfl, o, nF, R.nG nH, fun i c q oc z => ?_⟩
    obtain ⟨b, e1, w, e2⟩ := (R.slot i c q).ownA oc
    rw [z] at e1; cases e1
    rw [nH] at e2; cases e2

/-! ### readings over data -/
def rV2 (K : PySem.W.Frag) (g : D -> D -> Option Rv) : R2 := fun v w H Q => ∃ F d e r, Same F H ∧ RdV K F H v d ∧ RdV K F H w e ∧ g d e = some r ∧ ∀ F' H' u, Grw F H F' H' -> ResN K H F' H' u r -> Q u H'
def rV1 (K : PySem.W.Frag) (g : D -> Option Rv) : V -> Hp -> VK -> Prop := fun v H Q => ∃ F d r, Same F H ∧ RdV K F H v d ∧ g d = some r ∧ ∀ F' H' u, Grw F H F' H' -> ResN K H F' H' u r -> Q u H'
inductive RdVs (K : PySem.W.Frag) (F H : Hp) : List V -> List D -> Prop
  | nil : RdVs K F H [] []
  | cons {v : V} {vs : List V} {d : D} {ds : List D} : RdV K F H v d -> RdVs K F H vs ds -> RdVs K F H (v :: vs) (d :: ds)
def rVs (K : PySem.W.Frag) (g : List D -> Option Rv) : List V -> Hp -> VK -> Prop := fun vs H Q => ∃ F ds r, Same F H ∧ RdVs K F H vs ds ∧ g ds = some r ∧ ∀ F' H' u, Grw F H F' H' -> ResN K H F' H' u r -> Q u H'

section
variable {K : PySem.W.Frag} {F H : Hp} {v : V}
theorem RdV.int {i : Int} (h : RdV K F H v (.int i)) : v = .int i := by
  rcases h with h | ⟨a, _, o⟩
  · cases h; rfl
  · exact o.elim
theorem RdV.str {i : Str} (h : RdV K F H v (.str i)) : v = .str i := by
  rcases h with h | ⟨a, _, o⟩
  · cases h; rfl
  · exact o.elim
theorem RdV.bl {i : Bool} (h : RdV K F H v (.bool i)) : v = .bl i := by
  rcases h with h | ⟨a, _, o⟩
  · cases h; rfl
  · exact o.elim
theorem RdV.non (h : RdV K F H v .none) : v = .non := by
  rcases h with h | ⟨a, _, o⟩
  · cases h; rfl
  · exact o.elim
theorem RdV.list {ds : List D} (s : Same F H) (h : RdV K F H v (.list ds)) : ∃ a xs, v = .ref a ∧ SqL K H a xs ∧ DatL K F xs ds := by
  rcases h with h | ⟨a, e, xs, o, t⟩
  · cases h with
    | lst h t => exact ⟨_, _, rfl, sqL_mono s h, t⟩
  · exact ⟨a, xs, e, .inl (.inl o), t⟩
theorem RdV.tup {ds : List D} (s : Same F H) (h : RdV K F H v (.tuple ds)) : ∃ a xs, v = .ref a ∧ SqT K H a xs ∧ DatL K F xs ds ∧ Dat K F v (.tuple ds) := by
  rcases h with h | ⟨a, e, o⟩
  · cases h with
    | tup h t => exact ⟨_, _, rfl, sqT_mono s h.1, t, .tup h t⟩
  · exact o.elim
theorem RdV.dict {ds : List (D × D)} (s : Same F H) (hx : isX (.dict ds) = false) (h : RdV K F H v (.dict ds)) : ∃ a ks, v = .ref a ∧ H a = some (.dK ks) ∧ DatK K F ks ds := by
  rcases h with h | ⟨a, e, xs, o, t⟩
  · cases h with
    | dct h t => exact ⟨_, _, rfl, s _ _ h, t⟩
    | exc h => cases hx
  · exact ⟨a, xs, e, o, t⟩
theorem isX_no {α : Type} {d : D} {o : Option α} {y : α} (h : (if isX d = true then none else o) = some y) : isX d = false ∧ o = some y := by
  by_cases q : isX d = true
  · rw [if_pos q] at h; cases h
  · exact ⟨by simpa using q, by rw [if_neg q] at h; exact h⟩
theorem isX_kD {k : Key} {d : D} {r : List (D × D)} : isX (.dict ((kD k, d) :: r)) = false := by cases k <;> rfl
theorem datK_noX {ks : List (Key × V)} {ds : List (D × D)} (h : DatK K F ks ds) : isX (.dict ds) = false := by
  cases h with
  | nil => rfl
  | cons _ _ => exact isX_kD
/-- an exception that is read -/
theorem RdV.exc {d : D} {c : Str} (s : Same F H) (e : excOf d = some c) (h : RdV K F H v d) : ∃ a, v = .ref a ∧ H a = some (CxO (.ref (He.ga K c)) a) := by
  unfold excOf at e
  split at e
  · rename_i c' 
    cases e
    rcases h with h | ⟨a, rfl, xs, o, t⟩
    · cases h with
      | dct h t => have z := datK_noX t; cases z
      | exc h => exact ⟨_, rfl, s _ _ h⟩
    · have z := datK_noX t; cases z
  · cases e
/-- what is read over the whole heap -/
theorem RdV.whole {d : D} (s : Same F H) (h : RdV K F H v d) : Dat K H v d := by
  rcases h with h | ⟨a, e, o⟩
  · exact h.mono s
  · subst e
    cases d with
    | list ds => obtain ⟨xs, o, t⟩ := o; exact .lst (.inl (.inl o)) (t.mono s)
    | dict ds => obtain ⟨xs, o, t⟩ := o; exact .dct (o) (t.mono s)
    | _ => exact o.elim
theorem fin_pure {Q : VK} {r : Rv} {d : D} {u : V} (s : Same F H) (q : ∀ F' H' u, Grw F H F' H' -> ResN K H F' H' u r -> Q u H') (e : r = .pure d) (h : Dat K F u d) : Q u H := by
  subst e
  exact q F H u (Grw.refl s) h
theorem fin_tup {Q : VK} {r : Rv} {ds : List D} {xs : List V} (s : Same F H) (q : ∀ F' H' u, Grw F H F' H' -> ResN K H F' H' u r -> Q u H') (e : r = .pure (.tuple ds)) (h : DatL K F xs ds) {p : Addr} {o : Obj} (n : H p = none) (ho : o.dict = none) : Q (.ref p) (upd H p (.frz o (.tup xs))) := by
  subst e
  exact q _ _ _ (Grw.still s n) (.tup ⟨.inl (.inr ⟨_, upd_same⟩), .inl ⟨_, _, upd_same, ho⟩⟩ (h.mono (same_upd (s.free n))))
theorem fin_dct {Q : VK} {r : Rv} {ds : List (D × D)} {ks : List (Key × V)} (s : Same F H) (q : ∀ F' H' u, Grw F H F' H' -> ResN K H F' H' u r -> Q u H') (e : r = .own (.dict ds)) (h : DatK K F ks ds) {p : Addr} (n : H p = none) : Q (.ref p) (upd H p (.dK ks)) := by
  subst e
  exact q F _ _ (Grw.beside s n) ⟨p, rfl, ⟨ks, upd_same, h⟩, s.free n, n⟩
theorem fin_lst {Q : VK} {r : Rv} {ds : List D} {xs : List V} (s : Same F H) (q : ∀ F' H' u, Grw F H F' H' -> ResN K H F' H' u r -> Q u H') (e : r = .own (.list ds)) (h : DatL K F xs ds) {p : Addr} (n : H p = none) : Q (.ref p) (upd H p (.lst xs)) := by
  subst e
  exact q _ _ _ (Grw.beside s n) ⟨p, rfl, ⟨xs, upd_same, h⟩, s.free n, n⟩
end

/-! ### dicts with flat keys -/
section
variable {K : PySem.W.Frag} {F : Hp}
theorem keyD_kD (k : Key) : keyD (kD k) = some k := by cases k <;> rfl
theorem keyD_eq {d : D} {k : Key} (h : keyD d = some k) : d = kD k := by
  cases d <;> first | (cases h; done) | (cases h; rfl)
theorem dat_kV (k : Key) : Dat K F (kV k) (kD k) := by
  cases k with
  | inl i => exact .int i
  | inr x => exact .str x
theorem DatK.len : ∀ {ks : List (Key × V)} {ds : List (D × D)}, DatK K F ks ds -> ks.length = ds.length
  | _, _, .nil => rfl
  | _, _, .cons _ t => by rw [List.length_cons, List.length_cons, DatK.len t]
theorem getKV_pos {k : Key} {v : D} {r : List (D × D)} : getKV ((kD k, v) :: r) k = some v := by
  show (if keyD (kD k) = some k then some v else getKV r k) = some v
  rw [keyD_kD, if_pos rfl]
theorem getKV_neg {j k : Key} {v : D} {r : List (D × D)} (h : ¬ j = k) : getKV ((kD j, v) :: r) k = getKV r k := by
  show (if keyD (kD j) = some k then some v else getKV r k) = getKV r k
  rw [keyD_kD, if_neg (fun z => h (Option.some.inj z))]
theorem DatK.val (k : Key) : ∀ {ks : List (Key × V)} {ds : List (D × D)}, DatK K F ks ds -> (valV ks k = none ∧ getKV ds k = none) ∨ ∃ v d, valV ks k = some v ∧ getKV ds k = some d ∧ Dat K F v d
  | _, _, .nil => .inl ⟨rfl, rfl⟩
  | _, _, .cons (k := j) (v := v) (d := d) h t => by
    by_cases e : j = k
    · subst e
      exact .inr ⟨v, d, valV_pos rfl, getKV_pos, h⟩
    · rw [valV_neg (p := (j, v)) e, getKV_neg e]
      exact DatK.val k t
theorem DatK.rep {k : Key} {v : V} {d : D} (hd : Dat K F v d) : ∀ {ks : List (Key × V)} {ds : List (D × D)}, DatK K F ks ds -> DatK K F (ks.map fun kv => if kv.1 = k then (kv.1, v) else kv) (repKV ds k d)
  | _, _, .nil => .nil
  | _, _, .cons (k := j) h t => by
    rw [List.map_cons]
    show DatK K F _ ((kD j, if keyD (kD j) = some k then d else _) :: _)
    rw [keyD_kD]
    by_cases e : j = k
    · rw [if_pos e, if_pos (congrArg some e)]
      exact .cons hd (DatK.rep hd t)
    · rw [if_neg e, if_neg (fun z => e (Option.some.inj z))]
      exact .cons h (DatK.rep hd t)
theorem DatK.snoc {k : Key} {v : V} {d : D} (hd : Dat K F v d) : ∀ {ks : List (Key × V)} {ds : List (D × D)}, DatK K F ks ds -> DatK K F (ks ++ [(k, v)]) (ds ++ [(kD k, d)])
  | _, _, .nil => .cons hd .nil
  | _, _, .cons h t => .cons h (DatK.snoc hd t)
theorem DatK.put {ks : List (Key × V)} {ds : List (D × D)} {k : Key} {v : V} {d : D} (h : DatK K F ks ds) (hd : Dat K F v d) : DatK K F (putK ks k v) (putKV ds k d) := by
  unfold putK putKV
  rw [valV_any]
  have e : (valV ks k).isSome = (getKV ds k).isSome := by
    rcases h.val k with ⟨a, b⟩ | ⟨x, y, a, b, _⟩ <;> rw [a, b] <;> rfl
  rw [e]
  by_cases z : (getKV ds k).isSome = true
  · rw [if_pos z, if_pos z]; exact h.rep hd
  · rw [if_neg z, if_neg z]; exact h.snoc hd
theorem DatK.keys : ∀ {ks : List (Key × V)} {ds : List (D × D)}, DatK K F ks ds -> DatL K F (ks.map fun p => kV p.1) (ds.map (·.1))
  | _, _, .nil => .nil
  | _, _, .cons (k := k) _ t => .cons (dat_kV k) (DatK.keys t)
abbrev mD (md : List (Key × D)) : List (D × D) := md.map fun p => (kD p.1, p.2)
theorem DatK.merge : ∀ (ms : List (Key × V)) (md : List (Key × D)) {ks : List (Key × V)} {ds : List (D × D)}, DatK K F ms (mD md) -> DatK K F ks ds -> DatK K F (mergeK ks ms) (mergeKV ds md)
  | [], [], _, _, _, h => h
  | (k, v) :: ms, (j, d) :: md, ks, ds, m, h => by
    have m : DatK K F ((k, v) :: ms) ((kD j, d) :: mD md) := m
    generalize e : kD j = x at m
    cases m with
    | cons hv t =>
      have ej : j = k := by have z := congrArg keyD e; rw [keyD_kD, keyD_kD] at z; exact Option.some.inj z
      subst ej
      exact DatK.merge ms md t (h.put hv)
  | [], _ :: _, _, _, m, _ => nomatch m
  | _ :: _, [], _, _, m, _ => nomatch m
theorem pairs_dat : ∀ {vs : List V} {ds : List D} {md : List (Key × D)}, DatL K F vs ds -> pairsOf ds = some md -> ∃ (ps : List Addr) (kvs : List (Key × V)), vs = ps.map V.ref ∧ Paired (fun p kv => SqT K F p [kV kv.1, kv.2]) ps kvs ∧ DatK K F kvs (mD md)
  | _, _, _, .nil, e => by
    cases e
    exact ⟨[], [], rfl, .nil, .nil⟩
  | _, _, md, .cons (v := v) (vs := vs) (d := d) (ds := ds) h t, e => by
    unfold pairsOf at e
    split at e
    · rename_i z; cases z
    · rename_i a b r z
      injection z with z1 z2
      subst z1 z2
      split at e
      · rename_i k ps0 h1 h2
        cases e
        obtain ⟨ps, kvs, r1, r2, r3⟩ := pairs_dat t h2
        have ea := keyD_eq h1
        subst ea
        cases h with
        | @tup p xs ds hq hl =>
          cases hl with
          | @cons u us _ _ hu hl =>
            cases hl with
            | @cons y ys _ _ hy hl =>
              cases hl
              have eu : u = kV k := by
                cases k with
                | inl i => cases hu; rfl
                | inr x => cases hu; rfl
              subst eu
              exact ⟨p :: ps, (k, y) :: kvs, by rw [List.map_cons, r1], .cons hq.1 r2, .cons hy r3⟩
      · cases e
    · cases e
theorem strKs_eq : ∀ {ks : List (Key × V)} {ds : List (D × D)} {xs : List Str}, DatK K F ks ds -> strKs ds = some xs -> ks.map (·.1) = xs.map Sum.inr
  | _, _, _, .nil, e => by cases e; rfl
  | _, _, xs, .cons (k := k) (ks := ks) (ds := ds) _ t, e => by
    cases k with
    | inl i => cases e
    | inr x =>
      have e : (strKs ds).map (x :: ·) = some xs := e
      cases q : strKs ds with
      | none => rw [q] at e; cases e
      | some r => rw [q] at e; cases e; rw [List.map_cons, List.map_cons, strKs_eq t q]
end
/-! ### new tuples: their objects are known -/
section
variable {X : Cx}
/-- the object of a new tuple -/
abbrev tupO (us : List Value) : Obj := { cls := .type "tuple", data := .seq us.toArray }
theorem frz_new {P : Program} {w : World} {H : Hp} {h : Heap} {xs : List V} {us : List Value} (z : xs.length ≤ sizeLine) (r : Vals xs us) : ObjOk P w H (h.push (tupO us)) h.objs.size (.frz (tupO us) (.tup xs)) :=
  ⟨Heap.get?_push_size _ rfl, z, us, r, ⟨_, Heap.get?_push_size _ rfl, rfl, _, rfl⟩⟩
/-- laid open behind a push -/
theorem inv_tupF {pins : List (Addr × Obj)} {σ : L2.St} {H : Hp} {s : Shared} {xs : List V} {us : List Value} (I : Inv X pins σ H s) (z : xs.length ≤ sizeLine) (r : Vals xs us) (t' : Nat) :
    Inv X pins σ (upd H s.heap.objs.size (.frz (tupO us) (.tup xs))) { s with heap := s.heap.push (tupO us), toks := t' } :=
  I.laid (t' := t') (fun _ _ e => Heap.get?_push_of_some _ e) (Nat.le_refl _) (frz_new z r)
theorem tup_mul1 (l : Addr) (items : Array Value) (n : Nat) (dd : Option Addr) (sl : Array (Option Value)) (u : Tok) :
    Meets (Builtin.«tuple.__mul__» ⟨[.ref l, .int 1 u], []⟩) (fun _ R s => s.heap.get? l = some { cls := .type "tuple", dict := dd, data := .seq items n, slots := sl } ∧ R (.ok (.ret (Value.ref l))) s) :=
  .of_wp fun prog w A R s h => by
    obtain ⟨hp, g, d, tk, os⟩ := s
    obtain ⟨hl, h⟩ := h
    have f1 := AutoSeq1.idx_int
    wp_walk using wpAny_loadPart' hl
    exact ⟨_, rfl, h⟩
theorem tup_mul0 (l : Addr) (items : Array Value) (n : Nat) (dd : Option Addr) (sl : Array (Option Value)) (u : Tok) (hne : items.isEmpty = false) :
    Meets (Builtin.«tuple.__mul__» ⟨[.ref l, .int 0 u], []⟩) (fun _ R s => s.heap.get? l = some { cls := .type "tuple", dict := dd, data := .seq items n, slots := sl } ∧ R (.ok (.ret (Value.ref s.heap.objs.size))) { s with heap := s.heap.push (tupO []) }) :=
  .of_wp fun prog w A R s h => by
    obtain ⟨hp, g, d, tk, os⟩ := s
    obtain ⟨hl, h⟩ := h
    have f1 := AutoSeq1.idx_int
    wp_walk using wpAny_loadPart' hl
    exact ⟨_, rfl, h⟩
def rMulT (K : PySem.W.Frag) : R2 := fun x y H Q => ∃ l xs k, x = .ref l ∧ y = .int k ∧ SqT K H l xs ∧ xs ≠ [] ∧ ((k = 1 ∧ Q (.ref l) H) ∨ (k = 0 ∧ ∀ p o, H p = none -> o.dict = none -> Q (.ref p) (upd H p (.frz o (.tup [])))))
theorem op_mulT : OpR X (binaryOp .Mult) (rMulT X.K) := by
  intro pins s σ H x y v u Q I rx ry h
  obtain ⟨l, xs, k, rfl, rfl, hT, hne, h⟩ := h
  cases rx
  obtain ⟨t, rfl⟩ := ry
  obtain ⟨us, r, ⟨⟨cls, dd, data, sl⟩, ho, hc, n, hd⟩, hz⟩ := I.tuple hT
  simp only at hc hd
  subst hc hd
  have hn : us ≠ [] := fun e => hne (r.nil_iff.mp e)
  have hi : us.toArray.isEmpty = false := by
    cases us with
    | nil => exact absurd rfl hn
    | cons a b => rfl
  refine wpAny_binaryOp_repeat_ref (T := "tuple") (U := "int") (by decide) ⟨_, ho, rfl⟩ (fun s' => typeIs_int s' k t) noFill_tuple_mul PySem.F.fills_int_mul PySem.F.slot_int_rmul repeat_tuple PySem.F.slot_int_index.lookup
    (call_meets PySem.F.slot_int_rmul (typeIs_int s k t) PySem.F.entry_int_rmul (PySem.F.args_int_rmul_2 _ _) (int_rmul_tuple k t l us.toArray n dd sl) ⟨ho, rfl, ⟨_, ho, rfl⟩, ?_⟩)
  rcases h with ⟨rfl, q⟩ | ⟨rfl, q⟩
  · exact call_meets PySem.F.slot_tuple_mul ⟨_, ho, rfl⟩ PySem.F.entry_tuple_mul (PySem.F.args_tuple_mul_2 _ _) (tup_mul1 l us.toArray n dd sl t) ⟨ho, ⟨.ref l, H, I, rfl, q⟩⟩
  · exact call_meets PySem.F.slot_tuple_mul ⟨_, ho, rfl⟩ PySem.F.entry_tuple_mul (PySem.F.args_tuple_mul_2 _ _) (tup_mul0 l us.toArray n dd sl t hi) ⟨ho, ⟨.ref _, _, inv_tupF I (xs := []) (Nat.zero_le _) .nil s.toks, rfl, q _ _ (I.hok.fresh (Nat.le_refl _)) rfl⟩⟩
def rCatF (K : PySem.W.Frag) : R2 := fun x y H Q => ∃ a b xs ys, x = .ref a ∧ y = .ref b ∧ SqT K H a xs ∧ SqT K H b ys ∧ xs.length + ys.length ≤ sizeLine ∧
  (xs = [] -> Q (.ref b) H) ∧ (xs ≠ [] -> ys = [] -> Q (.ref a) H) ∧ (xs ≠ [] -> ys ≠ [] -> ∀ p o, H p = none -> o.dict = none -> Q (.ref p) (upd H p (.frz o (.tup (xs ++ ys)))))
theorem op_catF : OpR X (binaryOp .Add) (rCatF X.K) := by
  intro pins s σ H x y v u Q I rx ry h
  obtain ⟨a, b, xs, ys, rfl, rfl, ha, hb, hz, q0, q1, q2⟩ := h
  by_cases hx : xs = []
  · exact op_catA pins s σ H _ _ v u Q I rx ry ⟨a, b, xs, ys, rfl, rfl, ha, hb, hz, q0, q1, fun z => absurd hx z⟩
  · cases rx; cases ry
    obtain ⟨us, r1, p1, _⟩ := I.tuple ha
    obtain ⟨ws, r2, p2, _⟩ := I.tuple hb
    refine HT.cat_tup p1 p2 (fun z => hx (r1.nil_iff.mp z)) (fun z => ⟨.ref a, H, I, rfl, q1 hx (r2.nil_iff.mp z)⟩) (fun z => ?_) (by have e1 := r1.length; have e2 := r2.length; omega)
    exact ⟨.ref _, _, inv_tupF I (xs := xs ++ ys) (by rw [List.length_append]; exact hz) (r1.append r2) s.toks, rfl, q2 hx (fun w => z (r2.nil_iff.mpr w)) _ _ (I.hok.fresh (Nat.le_refl _)) rfl⟩
def rSlF (K : PySem.W.Frag) : V -> Option Int -> Option Int -> Hp -> VK -> Prop := fun x lo hi H Q => ∃ a xs, x = .ref a ∧ SqT K H a xs ∧
  (HT.sIx xs.length 0 lo = 0 ∧ HT.sIx xs.length xs.length hi = xs.length -> Q (.ref a) H) ∧ (¬ (HT.sIx xs.length 0 lo = 0 ∧ HT.sIx xs.length xs.length hi = xs.length) -> ∀ p o, H p = none -> o.dict = none -> Q (.ref p) (upd H p (.frz o (.tup (cutV xs lo hi)))))
theorem sl_tupF : SlR X (rSlF X.K) := by
  intro pins s σ H x v vl vu lo hi sl Q I rx hs pl pu h
  obtain ⟨a, xs, rfl, hx, q1, q2⟩ := h
  by_cases hw : HT.sIx xs.length 0 lo = 0 ∧ HT.sIx xs.length xs.length hi = xs.length
  · exact sl_tupA pins s σ H _ v vl vu lo hi sl Q I rx hs pl pu ⟨a, xs, rfl, hx, q1, fun z => absurd hw z⟩
  · cases rx
    obtain ⟨us, r, ht, hz⟩ := I.tuple hx
    have hl : us.toArray.size = xs.length := by rw [List.size_toArray]; exact r.length.symm
    refine ⟨"tuple", _, PyProof.Rows.slot_tuple_getitem.lookup, ht.typeIs, ?_⟩
    refine HT.getItem_tuple_cut ht hs pl pu (by rw [hl]; exact hw) ?_ (by rw [hl]; exact hz)
    rw [hl]
    exact ⟨.ref _, _, inv_tupF I (xs := cutV xs lo hi) (Nat.le_trans (cutV_length xs lo hi) hz) ((r.drop (HT.sIx xs.length 0 lo)).take _) s.toks, rfl, q2 hw _ _ (I.hok.fresh (Nat.le_refl _)) rfl⟩
theorem call_tupleF : CallR X (.type "tuple") (fun vs H Q => ∃ p ys, vs = [.ref p] ∧ SqL X.K H p ys ∧ ∀ l o, H l = none -> o.dict = none -> Q (.ref l) (upd H l (.frz o (.tup ys)))) := by
  intro pins s σ H vs us Q I r h
  obtain ⟨p, ys, rfl, hq, q⟩ := h
  obtain ⟨u, rfl, rx⟩ := vals1 r
  cases rx
  obtain ⟨ws, r', pl, hz⟩ := I.list hq
  have hl := r'.length
  refine call_tuple_list pl.isList (fun h' kp => ?_) (by simp only [List.size_toArray]; omega)
  have I1 : Inv X pins σ H { s with heap := h' } := I.kept (t' := s.toks) kp
  exact ⟨.ref _, _, inv_tupF I1 (xs := ys) hz r' s.toks, rfl, q _ _ (I1.hok.fresh (Nat.le_refl _)) rfl⟩
def tTupF (t : TA) : TE := fun σ H Q => t σ H fun xs H1 => xs.length ≤ sizeLine ∧ ∀ p o, H1 p = none -> o.dict = none -> Q (.ref p) (upd H1 p (.frz o (.tup xs)))
theorem pe_tupF {es : List Expr} {t : TA} {k : Nat} {pos : Pos} (h : PA X es t) : PE X (.Tuple es k pos) (tTupF t) := by
  refine ⟨fun pins s σ H Q I hq => ?_⟩
  refine wpAny_Tuple_spliced (thn (h.run pos pins s σ H _ I hq) fun us s1 ⟨xs, H1, I1, r, z, q⟩ => ⟨(by rw [← r.length]; exact z), ?_⟩)
  exact ⟨.ref _, _, inv_tupF I1 (xs := xs) z r s1.toks, rfl, q _ _ (I1.hok.fresh (Nat.le_refl _)) rfl⟩
end
section
variable {X : Cx}
/-- list + list, any two that are read -/
theorem op_catL : OpR X (binaryOp .Add) (fun x y H Q => ∃ a b xs ys, x = .ref a ∧ y = .ref b ∧ SqL X.K H a xs ∧ SqL X.K H b ys ∧ xs.length + ys.length ≤ sizeLine ∧ ∀ p, H p = none -> Q (.ref p) (upd H p (.lst (xs ++ ys)))) := by
  intro pins s σ H x y v u Q I rx ry h
  obtain ⟨l, b, xs, zs, rfl, rfl, hH, hB, hz, q⟩ := h
  cases rx
  cases ry
  obtain ⟨its, r, ⟨⟨cls, dd, data, sl⟩, n, ho, hc, _, hd⟩, hl⟩ := I.list hH
  obtain ⟨its2, r2, ⟨⟨cls2, dd2, data2, sl2⟩, n2, ho2, hc2, _, hd2⟩, hl2⟩ := I.list hB
  simp only at hc hd hc2 hd2
  subst hc hd hc2 hd2
  have e1 := r.length
  have e2 := r2.length
  have e : its.toArray ++ its2.toArray = (its ++ its2).toArray := by simp
  refine concat_meets ⟨_, ho, rfl⟩ ⟨_, ho2, rfl⟩ noFill_list_add seq_list_add PySem.F.slot_list_add PySem.F.entry_list_add (PySem.F.args_list_add_2 _ _) (list_addW l b its.toArray its2.toArray n n2 dd dd2 sl sl2 (by rw [List.size_toArray, List.size_toArray]; omega)) ⟨ho, ho2, ?_⟩
  rw [e]
  exact ⟨.ref _, _, I.laid (t' := s.toks) (o := .lst (xs ++ zs)) (fun b ob q => Heap.get?_push_of_some _ q) (Nat.le_refl _) ⟨by rw [List.length_append]; omega, its ++ its2, 0, r.append r2, Heap.get?_push_size _ rfl⟩, rfl, q _ (I.hok.fresh (Nat.le_refl _))⟩

theorem foldl_flat : ∀ (l : List (Array Nat)) (a : Array Nat), (l.foldl (· ++ ·) a).toList = a.toList ++ (l.map Array.toList).flatten
  | [], a => by simp
  | b :: r, a => by rw [List.foldl_cons, foldl_flat r]; simp
theorem repS_eq (x : Str) (n : Int) : (⟨(List.replicate n.toNat x.cps).foldl (· ++ ·) #[]⟩ : Str) = repS x n := by
  unfold repS
  congr 1
  apply Array.toList_inj.mp
  rw [foldl_flat]
  simp
theorem op_mul_strD : OpR X (binaryOp .Mult) (fun x y H Q => ∃ z n, x = .str z ∧ y = .int n ∧ 0 ≤ n ∧ n ≤ 1000000 ∧ z.length * n.toNat ≤ sizeLine ∧ Q (.str (repS z n)) H) := by
  intro pins s σ H x y v u Q I rx ry h
  obtain ⟨z, n, rfl, rfl, h0, h1, hz, q⟩ := h
  obtain ⟨t, rfl⟩ := rx
  obtain ⟨t', rfl⟩ := ry
  have e2 : sizeLine = 16777216 := by decide
  refine P.mul_str ?_ (fun hn hx => ?_) (fun hn hx => ?_) ?_
  · rw [decide_eq_false (by omega), decide_eq_false (by omega)]; rfl
  · have hl : 1 ≤ n.toNat := by omega
    have h2 : z.length ≤ 16777216 := by
      have h3 : z.length * 1 ≤ z.length * n.toNat := Nat.mul_le_mul_left _ hl
      omega
    have h4 : (16777216 : Int) ≤ (2 ^ 63 - 1) / n := by
      rw [Int.le_ediv_iff_mul_le (by omega)]
      have : (16777216 : Int) * n ≤ 16777216 * 1000000 := Int.mul_le_mul_of_nonneg_left h1 (by omega)
      omega
    omega
  · unfold Builtin.Str.tooLong
    exact decide_eq_false (by omega)
  · by_cases hn : n < 1
    · rw [if_pos hn]
      obtain rfl : n = 0 := by omega
      exact ⟨by decide, ⟨.str _, H, I.tok _, ⟨_, rfl⟩, q⟩⟩
    · rw [if_neg hn]
      by_cases hx : (n == 1 || z.length == 0) = true
      · rw [if_pos hx]
        have e : repS z n = z := by
          unfold repS
          rw [Bool.or_eq_true] at hx
          rcases hx with hx | hx
          · obtain rfl : n = 1 := by simpa using hx
            simp
          · have hz0 : z.cps.toList = [] := by
              have : z.cps.size = 0 := by simpa [Str.length] using hx
              exact List.eq_nil_of_length_eq_zero (by simpa using this)
            obtain ⟨⟨l⟩⟩ := z
            simp only at hz0
            subst hz0
            simp
        rw [e] at q
        exact ⟨.str _, H, I, ⟨_, rfl⟩, q⟩
      · rw [if_neg hx, repS_eq]
        refine ⟨?_, ⟨.str _, H, I.tok _, ⟨_, rfl⟩, q⟩⟩
        have e : (repS z n).length = n.toNat * z.length := by
          unfold repS Str.length
          simp
        rw [e, Nat.mul_comm]
        exact hz
theorem mulOk_ok {i j : Int} (h : mulOk i j = true) : CMul i j := by
  unfold mulOk at h
  simp only [Bool.or_eq_true, sizeB_iff] at h
  rcases h with h | h
  · exact .inl ⟨by have := h.1; omega, by have := h.2; omega⟩
  · exact .inr ⟨by have := h.1; omega, by have := h.2; omega⟩
theorem opBin (op : Operator) : OpR X (binaryOp op) (rV2 X.K (binD op)) := by
  intro pins s σ H v w vv ww Q I rv rw' h
  obtain ⟨F, d, e, r, sF, hd, he, hb, q⟩ := h
  have two_int : ∀ {i j : Int}, d = .int i -> e = .int j -> v = .int i ∧ w = .int j := fun e1 e2 => by
    subst e1 e2; exact ⟨hd.int, he.int⟩
  cases op with
  | Add =>
    cases d with
    | int i =>
      cases e with
      | int j =>
        obtain ⟨rfl, rfl⟩ := two_int rfl rfl
        cases hb
        exact op_add pins s σ H _ _ vv ww Q I rv rw' ⟨i, j, rfl, rfl, fin_pure sF q rfl (.int _)⟩
      | _ => cases hb
    | str i =>
      cases e with
      | str j =>
        obtain rfl := hd.str
        obtain rfl := he.str
        simp only [binD] at hb
        split at hb
        · rename_i hz
          cases hb
          exact op_add_str pins s σ H _ _ vv ww Q I rv rw' ⟨i, j, rfl, rfl, hz, fin_pure sF q rfl (.str _)⟩
        · cases hb
      | _ => cases hb
    | tuple xs =>
      cases e with
      | tuple ys =>
        obtain ⟨a, us, rfl, h1, t1, D1⟩ := hd.tup sF
        obtain ⟨b, ws, rfl, h2, t2, D2⟩ := he.tup sF
        simp only [binD] at hb
        split at hb
        · rename_i hz
          cases hb
          have l1 := t1.length
          have l2 := t2.length
          refine op_catF pins s σ H _ _ vv ww Q I rv rw' ⟨a, b, us, ws, rfl, rfl, h1, h2, by omega, fun z => ?_, fun z z2 => ?_, fun z z2 p o np ho => fin_tup sF q rfl (t1.append t2) np ho⟩
          · subst z
            cases t1
            exact fin_pure sF q rfl D2
          · subst z2
            cases t2
            exact fin_pure sF q (by rw [List.append_nil]) D1
        · cases hb
      | _ => cases hb
    | list xs =>
      cases e with
      | list ys =>
        obtain ⟨a, us, rfl, h1, t1⟩ := hd.list sF
        obtain ⟨b, ws, rfl, h2, t2⟩ := he.list sF
        simp only [binD] at hb
        split at hb
        · rename_i hz
          cases hb
          have l1 := t1.length
          have l2 := t2.length
          exact op_catL pins s σ H _ _ vv ww Q I rv rw' ⟨a, b, us, ws, rfl, rfl, h1, h2, by omega, fun p np => fin_lst sF q rfl (t1.append t2) np⟩
        · cases hb
      | _ => cases hb
    | _ => cases hb
  | Sub =>
    cases d with
    | int i =>
      cases e with
      | int j =>
        obtain ⟨rfl, rfl⟩ := two_int rfl rfl
        cases hb
        exact op_sub pins s σ H _ _ vv ww Q I rv rw' ⟨i, j, rfl, rfl, fin_pure sF q rfl (.int _)⟩
      | _ => cases hb
    | _ => cases hb
  | Mult =>
    cases d with
    | int i =>
      cases e with
      | int j =>
        obtain ⟨rfl, rfl⟩ := two_int rfl rfl
        simp only [binD] at hb
        split at hb
        · rename_i hz
          cases hb
          exact op_mul pins s σ H _ _ vv ww Q I rv rw' ⟨i, j, rfl, rfl, mulOk_ok hz, fin_pure sF q rfl (.int _)⟩
        · cases hb
      | _ => cases hb
    | str i =>
      cases e with
      | int j =>
        obtain rfl := hd.str
        obtain rfl := he.int
        simp only [binD] at hb
        split at hb
        · rename_i hz
          cases hb
          exact op_mul_strD pins s σ H _ _ vv ww Q I rv rw' ⟨i, j, rfl, rfl, hz.1, hz.2.1, hz.2.2, fin_pure sF q rfl (.str _)⟩
        · cases hb
      | _ => cases hb
    | tuple xs =>
      cases e with
      | int j =>
        obtain ⟨a, us, rfl, h1, t1, D1⟩ := hd.tup sF
        obtain rfl := he.int
        simp only [binD] at hb
        split at hb
        · cases hb
        · rename_i hne
          have hu : us ≠ [] := fun z => by
            subst z
            cases t1
            exact hne rfl
          split at hb
          · rename_i hj
            cases hb
            exact op_mulT pins s σ H _ _ vv ww Q I rv rw' ⟨a, us, j, rfl, rfl, h1, hu, .inl ⟨hj, fin_pure sF q rfl D1⟩⟩
          · split at hb
            · rename_i hj
              cases hb
              exact op_mulT pins s σ H _ _ vv ww Q I rv rw' ⟨a, us, j, rfl, rfl, h1, hu, .inr ⟨hj, fun p o np ho => fin_tup sF q rfl .nil np ho⟩⟩
            · cases hb
      | _ => cases hb
    | _ => cases hb
  | FloorDiv =>
    cases d with
    | int i =>
      cases e with
      | int j =>
        obtain ⟨rfl, rfl⟩ := two_int rfl rfl
        simp only [binD] at hb
        split at hb
        · rename_i hz
          cases hb
          have hz2 : CDivW i j := by
            unfold divOk at hz
            simp only [Bool.and_eq_true, decide_eq_true_eq] at hz
            exact hz
          exact op_fdivW pins s σ H _ _ vv ww Q I rv rw' ⟨i, j, rfl, rfl, hz2, fin_pure sF q rfl (.int _)⟩
        · cases hb
      | _ => cases hb
    | _ => cases hb
  | Mod =>
    cases d with
    | int i =>
      cases e with
      | int j =>
        obtain ⟨rfl, rfl⟩ := two_int rfl rfl
        simp only [binD] at hb
        split at hb
        · rename_i hz
          cases hb
          exact op_mod pins s σ H _ _ vv ww Q I rv rw' ⟨i, j, rfl, rfl, hz, fin_pure sF q rfl (.int _)⟩
        · cases hb
      | _ => cases hb
    | _ => cases hb
  | Pow =>
    cases d with
    | int i =>
      cases e with
      | int j =>
        obtain ⟨rfl, rfl⟩ := two_int rfl rfl
        simp only [binD] at hb
        split at hb
        · rename_i hz
          cases hb
          exact op_pow pins s σ H _ _ vv ww Q I rv rw' ⟨i, j, rfl, rfl, hz, fin_pure sF q rfl (.int _)⟩
        · cases hb
      | _ => cases hb
    | _ => cases hb
  | _ => cases d <;> cases e <;> cases hb

theorem isOne_eq {s : Str} {c : Nat} (h : isOne s = some c) : s = ⟨#[c]⟩ := by
  unfold isOne at h
  split at h
  · rename_i z
    cases h
    cases s
    rename_i a
    congr 1
    exact Array.toList_inj.mp z
  · cases h
section
variable {pins : List (Addr × Obj)} {σ : L2.St} {F H : Hp} {s : Shared} {v : V} {u : Value} {d : D}
theorem RdV.reads (I : Inv X pins σ H s) (sF : Same F H) (h : RdV X.K F H v d) (r : RelV v u) (p : d.plain = true) : ∃ as, Reads s.heap u d as :=
  Dp.reads I d v u ((h.whole sF).dp p) r
end
theorem eqOk_of {d : D} (h : eqOk d = true) : d.plain = true ∧ d.depth ≤ 64 := by
  unfold eqOk at h
  simp only [Bool.and_eq_true, decide_eq_true_eq] at h
  exact h
theorem map_pb {o : Option Bool} {r : Rv} (h : (o.map fun b => Rv.pure (.bool b)) = some r) : ∃ b, o = some b ∧ r = .pure (.bool b) := by
  cases o with
  | none => cases h
  | some b => cases h; exact ⟨b, rfl, rfl⟩
theorem map_nb {o : Option Bool} {b : Bool} (h : o.map (!·) = some b) : ∃ c, o = some c ∧ b = !c := by
  cases o with
  | none => cases h
  | some c => cases h; exact ⟨c, rfl, rfl⟩
theorem dec_non {v : V} {d : D} {K : PySem.W.Frag} {F H : Hp} (h : RdV K F H v d) : decide (v = .non) = isNone d := by
  rcases h with h | ⟨a, e, o⟩
  · cases h <;> rfl
  · subst e
    cases d <;> first | rfl | exact o.elim
theorem ordOk_of {d e : D} (h : ordOk d e = true) : d.plain = true ∧ e.plain = true ∧ PySem.W.alike d e = true ∧ d.depth ≤ 64 := by
  unfold ordOk at h
  simp only [Bool.and_eq_true, decide_eq_true_eq] at h
  exact h
theorem RdV.key {K : PySem.W.Frag} {F H : Hp} {v : V} {d : D} {k : Key} (h : RdV K F H v d) (e : keyD d = some k) : v = kV k := by
  have z := keyD_eq e
  subst z
  cases k with
  | inl i => exact h.int
  | inr x => exact h.str
theorem opCmp (op : CmpOp) (hu : X.A.units + 65 < cLine) : OpR X (compareOp op) (rV2 X.K fun d e => (cmpD op d e).map fun b => .pure (.bool b)) := by
  intro pins s σ H v w vv ww Q I rv rw' h
  obtain ⟨F, d, e, r, sF, hd, he, hb0, q⟩ := h
  obtain ⟨b, hb, rfl⟩ := map_pb hb0
  clear hb0
  have fin : ∀ {c : Bool}, c = b -> EP X pins σ Q (.bool c) s := fun z => by
    subst z
    exact ⟨.bl _, H, I, rfl, fin_pure sF q rfl (.bl _)⟩
  have fin2 : Q (.bl b) H := fin_pure sF q rfl (.bl _)
  have room : ∀ {m n : Nat}, n ≤ 64 -> X.A.units + min m n < cLine := fun {m n} z => by
    have := Nat.min_le_right m n
    omega
  have room1 : ∀ {m n : Nat}, n ≤ 64 -> X.A.units + 1 + min m n < cLine := fun {m n} z => by
    have := Nat.min_le_right m n
    omega
  have ord : ∀ {op}, ordD op d e = some b -> wpAny (model X.prog X.w) X.A (compareOp op vv ww) (EP X pins σ Q) X.xe s := fun {op} ho => by
    cases op with
    | Lt =>
      cases d with
      | int i => cases e with
        | int j => obtain rfl := hd.int; obtain rfl := he.int; cases ho; exact op_lt pins s σ H _ _ vv ww Q I rv rw' ⟨i, j, rfl, rfl, fin2⟩
        | _ => cases ho
      | str i => cases e with
        | str j => obtain rfl := hd.str; obtain rfl := he.str; cases ho; exact op_lt_str pins s σ H _ _ vv ww Q I rv rw' ⟨i, j, rfl, rfl, fin2⟩
        | _ => cases ho
      | tuple i => cases e with
        | tuple j =>
          simp only [ordD] at ho
          split at ho
          · rename_i z
            cases ho
            obtain ⟨p1, p2, al, dp⟩ := ordOk_of z
            obtain ⟨as, r1⟩ := hd.reads I sF rv p1
            obtain ⟨bs, r2⟩ := he.reads I sF rw' p2
            exact PySem.W.lt_data r1 r2 al (fun z => by cases z) (by have := Nat.min_le_left (PyData.tuple i).depth (PyData.tuple j).depth; omega) (fin rfl)
          · cases ho
        | _ => cases ho
      | _ => cases e <;> cases ho
    | LtE =>
      cases d with
      | int i => cases e with
        | int j => obtain rfl := hd.int; obtain rfl := he.int; cases ho; exact op_le pins s σ H _ _ vv ww Q I rv rw' ⟨i, j, rfl, rfl, fin2⟩
        | _ => cases ho
      | str i => cases e with
        | str j => obtain rfl := hd.str; obtain rfl := he.str; cases ho; exact op_le_str pins s σ H _ _ vv ww Q I rv rw' ⟨i, j, rfl, rfl, fin2⟩
        | _ => cases ho
      | tuple i => cases e with
        | tuple j =>
          simp only [ordD] at ho
          split at ho
          · rename_i z
            cases ho
            obtain ⟨p1, p2, al, dp⟩ := ordOk_of z
            obtain ⟨as, r1⟩ := hd.reads I sF rv p1
            obtain ⟨bs, r2⟩ := he.reads I sF rw' p2
            exact PySem.W.le_data r1 r2 al (fun z => by cases z) (by have := Nat.min_le_left (PyData.tuple i).depth (PyData.tuple j).depth; omega) (fin rfl)
          · cases ho
        | _ => cases ho
      | _ => cases e <;> cases ho
    | Gt =>
      cases d with
      | int i => cases e with
        | int j => obtain rfl := hd.int; obtain rfl := he.int; cases ho; exact op_gt pins s σ H _ _ vv ww Q I rv rw' ⟨i, j, rfl, rfl, fin2⟩
        | _ => cases ho
      | _ => cases ho
    | GtE =>
      cases d with
      | int i => cases e with
        | int j => obtain rfl := hd.int; obtain rfl := he.int; cases ho; exact op_ge pins s σ H _ _ vv ww Q I rv rw' ⟨i, j, rfl, rfl, fin2⟩
        | _ => cases ho
      | _ => cases ho
    | _ => cases ho
  have inn : ∀ {op} {b' : Bool}, (op = .In ∧ b' = b) ∨ (op = .NotIn ∧ b = !b') -> inD d e = some b' -> wpAny (model X.prog X.w) X.A (compareOp op vv ww) (EP X pins σ Q) X.xe s := fun {op b'} hop ho => by
    cases e with
    | list xs =>
      simp only [inD] at ho
      split at ho
      · rename_i hz
        rw [Bool.and_eq_true] at hz
        cases ho
        obtain ⟨p1, p2⟩ := eqOk_of hz.1
        obtain ⟨p3, _⟩ := eqOk_of hz.2
        obtain ⟨as, r1⟩ := hd.reads I sF rv p1
        obtain ⟨bs, r2⟩ := he.reads I sF rw' p3
        have p3 : PyData.plainAll xs = true := by simpa [PyData.plain] using p3
        rcases hop with ⟨rfl, e⟩ | ⟨rfl, e⟩
        · exact SeqAt.in_list_data r2 r1 p3 p1 (room1 p2) (fin e)
        · exact SeqAt.notIn_list_data r2 r1 p3 p1 (room1 p2) (fin e.symm)
      · cases ho
    | tuple xs =>
      simp only [inD] at ho
      split at ho
      · rename_i hz
        rw [Bool.and_eq_true] at hz
        cases ho
        obtain ⟨p1, p2⟩ := eqOk_of hz.1
        obtain ⟨p3, _⟩ := eqOk_of hz.2
        obtain ⟨as, r1⟩ := hd.reads I sF rv p1
        obtain ⟨bs, r2⟩ := he.reads I sF rw' p3
        have p3 : PyData.plainAll xs = true := by simpa [PyData.plain] using p3
        rcases hop with ⟨rfl, e⟩ | ⟨rfl, e⟩
        · exact SeqAt.in_tuple_data r2 r1 p3 p1 (room1 p2) (fin e)
        · exact SeqAt.notIn_tuple_data r2 r1 p3 p1 (room1 p2) (fin e.symm)
      · cases ho
    | str t =>
      cases d with
      | str z =>
        simp only [inD] at ho
        split at ho
        · rename_i c hc
          cases ho
          obtain rfl := isOne_eq hc
          obtain rfl := hd.str
          obtain rfl := he.str
          rcases hop with ⟨rfl, e⟩ | ⟨rfl, e⟩
          · exact op_in_sign pins s σ H _ _ vv ww Q I rv rw' ⟨c, t, rfl, rfl, by unfold hasCh at e; rw [e]; exact fin2⟩
          · exact op_notIn_sign pins s σ H _ _ vv ww Q I rv rw' ⟨c, t, rfl, rfl, by unfold hasCh at e; rw [← e]; exact fin2⟩
        · cases ho
      | _ => cases ho
    | dict kvs =>
      simp only [inD] at ho
      obtain ⟨hx, ho⟩ := isX_no ho
      cases ek : keyD d with
      | none => rw [ek] at ho; cases ho
      | some k =>
        rw [ek] at ho
        obtain rfl := hd.key ek
        obtain ⟨a, ks, rfl, h1, t1⟩ := he.dict sF hx
        obtain rfl : ww = Value.ref a := rw'
        have ev : (valV ks k).isSome = (getKV kvs k).isSome := by
          rcases t1.val k with ⟨z1, z2⟩ | ⟨x, y, z1, z2, _⟩ <;> rw [z1, z2] <;> rfl
        have ho : (getKV kvs k).isSome = b' := by cases ho; rfl
        have g : DGet H a (kV k) (valV ks k) := .inl ⟨ks, k, .inl h1, rfl, rfl⟩
        rcases hop with ⟨rfl, e⟩ | ⟨rfl, e⟩
        · exact d_in (by omega) I g rv fun s3 I3 => ⟨.bl _, H, I3, rfl, by rw [ev, ho, e]; exact fin2⟩
        · exact d_notIn (by omega) I g rv fun s3 I3 => ⟨.bl _, H, I3, rfl, by rw [ev, ho, ← e]; exact fin2⟩
    | _ => cases ho
  cases op with
  | Eq =>
    have hb : eqD d e = some b := hb
    unfold eqD at hb
    split at hb
    · rename_i hz
      rw [Bool.and_eq_true] at hz
      cases hb
      obtain ⟨p1, p2⟩ := eqOk_of hz.1
      obtain ⟨p3, p4⟩ := eqOk_of hz.2
      obtain ⟨as, r1⟩ := hd.reads I sF rv p1
      obtain ⟨bs, r2⟩ := he.reads I sF rw' p3
      exact SeqAt.eq_plain r1 r2 p1 p3 (room p4) (fin rfl)
    · cases hb
  | NotEq =>
    obtain ⟨c, hb, hc⟩ := map_nb (show (eqD d e).map (!·) = some b from hb)
    unfold eqD at hb
    split at hb
    · rename_i hz
      rw [Bool.and_eq_true] at hz
      cases hb
      obtain ⟨p1, p2⟩ := eqOk_of hz.1
      obtain ⟨p3, p4⟩ := eqOk_of hz.2
      obtain ⟨as, r1⟩ := hd.reads I sF rv p1
      obtain ⟨bs, r2⟩ := he.reads I sF rw' p3
      exact SeqAt.ne_plain r1 r2 p1 p3 (room p4) (fin hc.symm)
    · cases hb
  | In => exact inn (.inl ⟨rfl, rfl⟩) hb
  | NotIn =>
    obtain ⟨c, hb, hc⟩ := map_nb (show (inD d e).map (!·) = some b from hb)
    exact inn (.inr ⟨rfl, hc⟩) hb
  | Is =>
    cases e with
    | none =>
      have hb : some (isNone d) = some b := hb
      cases hb
      obtain rfl := he.non
      exact op_isN pins s σ H _ _ vv ww Q I rv rw' ⟨rfl, by rw [dec_non hd]; exact fin2⟩
    | _ => exact ord (op := .Is) hb
  | IsNot =>
    cases e with
    | none =>
      have hb : some (!isNone d) = some b := hb
      cases hb
      obtain rfl := he.non
      exact op_notN pins s σ H _ _ vv ww Q I rv rw' ⟨rfl, by rw [dec_non hd]; exact fin2⟩
    | _ => exact ord (op := .IsNot) hb
  | Lt => exact ord hb
  | LtE => exact ord hb
  | Gt => exact ord hb
  | GtE => exact ord hb
theorem atI_map {α β : Type} {xs : List α} {ys : List β} {i : Int} {y : β} (hl : xs.length = ys.length) (h : atI ys i = some y) : ∃ (j : Nat) (x : α), ys[j]? = some y ∧ xs[j]? = some x ∧ atI xs i = some x := by
  unfold atI at h ⊢
  rw [hl]
  cases e : ixN ys.length i with
  | none => rw [e] at h; cases h
  | some j =>
    rw [e] at h
    have h : ys[j]? = some y := h
    have hj : j < ys.length := (List.getElem?_eq_some_iff.mp h).1
    refine ⟨j, xs[j], h, List.getElem?_eq_getElem (by omega), ?_⟩
    show xs[j]? = _
    exact List.getElem?_eq_getElem (by omega)
theorem map_p {o : Option D} {r : Rv} (h : o.map Rv.pure = some r) : ∃ d, o = some d ∧ r = .pure d := by
  cases o with
  | none => cases h
  | some b => cases h; exact ⟨b, rfl, rfl⟩
/-- d[k], there -/
theorem ix_dict : IxR X (fun x y H Q => ∃ a kvs k v, x = .ref a ∧ y = kV k ∧ Rd H a (.dK kvs) ∧ valV kvs k = some v ∧ Q v H) := by
  intro value slice pins s σ H x y v u Q I rx ry h hs
  obtain ⟨a, kvs, k, r, rfl, rfl, e, l, q⟩ := h
  obtain rfl : v = Value.ref a := rx
  obtain ⟨z, hd, vs, rel, dd⟩ := dk_rd I.hok e
  obtain ⟨w', hw, rw'⟩ := RelO.some_of (v := r) (o := valueAt vs k) (by rw [← l]; exact rel.val k)
  exact tail_any dd.typeIs PySem.F.slot_dict_getitem.lookup (wpAny_getItem_of (kV_is ry) dd.mapOf hw ⟨r, H, I.tok _, rw', q⟩) hs
theorem opIdx : IxR X (rV2 X.K fun d k => (idxD d k).map .pure) := by
  intro value slice pins s σ H v w vv ww Q I rv rw' h hs
  obtain ⟨F, d, e, r, sF, hd, he, hb0, q⟩ := h
  obtain ⟨y, hb, rfl⟩ := map_p hb0
  clear hb0
  cases d with
  | list xs => cases e with
    | int i =>
      obtain ⟨a, us, rfl, h1, t1⟩ := hd.list sF
      obtain rfl := he.int
      obtain ⟨j, u, g1, g2, g3⟩ := atI_map t1.length (show atI xs i = some y from hb)
      obtain ⟨u', g4, dy⟩ := t1.get g1
      rw [g2] at g4; cases g4
      exact ix_list value slice pins s σ H _ _ vv ww Q I rv rw' ⟨a, us, i, u, rfl, rfl, h1, g3, fin_pure sF q rfl dy⟩ hs
    | _ => cases hb
  | tuple xs => cases e with
    | int i =>
      obtain ⟨a, us, rfl, h1, t1, _⟩ := hd.tup sF
      obtain rfl := he.int
      obtain ⟨j, u, g1, g2, g3⟩ := atI_map t1.length (show atI xs i = some y from hb)
      obtain ⟨u', g4, dy⟩ := t1.get g1
      rw [g2] at g4; cases g4
      exact ix_tup value slice pins s σ H _ _ vv ww Q I rv rw' ⟨a, us, i, u, rfl, rfl, h1, g3, fin_pure sF q rfl dy⟩ hs
    | _ => cases hb
  | str z => cases e with
    | int i =>
      obtain rfl := hd.str
      obtain rfl := he.int
      simp only [idxD] at hb
      split at hb
      · rename_i hz
        cases hc : atI z.cps.toList i with
        | none => rw [hc] at hb; cases hb
        | some c =>
          rw [hc] at hb
          cases hb
          exact ix_str value slice pins s σ H _ _ vv ww Q I rv rw' ⟨z, i, c, rfl, rfl, hz, hc, fin_pure sF q rfl (.str _)⟩ hs
      · cases hb
    | _ => cases hb
  | dict xs =>
    obtain ⟨hx, hb⟩ := isX_no (show (if isX (.dict xs) = true then none else (keyD e).bind (getKV xs)) = some y by cases e <;> exact hb)
    obtain ⟨a, ks, rfl, h1, t1⟩ := hd.dict sF hx
    cases ek : keyD e with
    | none => rw [ek] at hb; cases hb
    | some k =>
      rw [ek] at hb
      have hb : getKV xs k = some y := hb
      obtain rfl := he.key ek
      rcases t1.val k with ⟨_, z⟩ | ⟨w, d2, z1, z2, z3⟩
      · rw [z] at hb; cases hb
      · rw [z2] at hb; cases hb
        exact ix_dict value slice pins s σ H _ _ vv ww Q I rv rw' ⟨a, ks, k, w, rfl, rfl, .inl h1, z1, fin_pure sF q rfl z3⟩ hs
  | _ => cases e <;> cases hb
theorem cutL_V (xs : List V) (lo hi : Option Int) : cutV xs lo hi = cutL xs lo hi := rfl
theorem DatL.cut {K : PySem.W.Frag} {F : Hp} {vs : List V} {ds : List D} (h : DatL K F vs ds) (lo hi : Option Int) : DatL K F (cutV vs lo hi) (cutL ds lo hi) := by
  unfold cutV cutL
  rw [h.length]
  exact (h.drop _).take _
theorem cutL_whole {α : Type} {xs : List α} {lo hi : Option Int} (h : HT.sIx xs.length 0 lo = 0 ∧ HT.sIx xs.length xs.length hi = xs.length) : cutL xs lo hi = xs := by
  unfold cutL
  rw [h.1, h.2, List.drop_zero, Nat.sub_zero, List.take_length]
def rSlD (K : PySem.W.Frag) : V -> Option Int -> Option Int -> Hp -> VK -> Prop := fun v lo hi H Q => ∃ F d r, Same F H ∧ RdV K F H v d ∧ slcD d lo hi = some r ∧ ∀ F' H' u, Grw F H F' H' -> ResN K H F' H' u r -> Q u H'
theorem opSlc : SlR X (rSlD X.K) := by
  intro pins s σ H v vv vl vu lo hi sl Q I rv hs pl pu h
  obtain ⟨F, d, r, sF, hd, hb, q⟩ := h
  cases d with
  | str z =>
    obtain rfl := hd.str
    simp only [slcD] at hb
    split at hb
    · rename_i hz
      cases hb
      exact sl_str pins s σ H _ vv vl vu lo hi sl Q I rv hs pl pu ⟨z, rfl, hz, fin_pure sF q rfl (.str _)⟩
    · cases hb
  | list xs =>
    obtain ⟨a, us, rfl, h1, t1⟩ := hd.list sF
    cases hb
    exact sl_list pins s σ H _ vv vl vu lo hi sl Q I rv hs pl pu ⟨a, us, rfl, h1, fun p np => fin_lst sF q rfl (t1.cut lo hi) np⟩
  | tuple xs =>
    obtain ⟨a, us, rfl, h1, t1, D1⟩ := hd.tup sF
    cases hb
    refine sl_tupF pins s σ H _ vv vl vu lo hi sl Q I rv hs pl pu ⟨a, us, rfl, h1, fun z => ?_, fun _ p o np ho => fin_tup sF q rfl (t1.cut lo hi) np ho⟩
    rw [t1.length] at z
    exact fin_pure sF q (by rw [cutL_whole z]) D1
  | _ => cases hb
end
end DE

/-! DS0: dict(pairs), list(d). -/
namespace DE
open PySem PySem.Spec PyProof.Rows L2
section
variable {X : Cx} {pins : List (Addr × Obj)} {σ : L2.St} {H : Hp} {s : Shared}
theorem bare_of {a : Addr} {xs : List V} (I : Inv X pins σ H s) (h : SqU X.K H a xs) : ∃ (us : List Value) (o : Obj) (n : Nat), Vals xs us ∧ s.heap.get? a = some o ∧ o.cls = .type "tuple" ∧ o.dict = none ∧ o.data = .seq us.toArray n ∧ xs.length ≤ sizeLine := by
  obtain ⟨us, r, ⟨o, ho, hc, n, hd⟩, hz⟩ := I.tuple h.1
  refine ⟨us, o, n, r, ho, hc, ?_, hd, hz⟩
  rcases h.2 with ⟨o2, u, e, q⟩ | ⟨o2, e, q⟩
  · have z := (I.hok a _ e).1
    rw [ho] at z; cases z; exact q
  · have z := I.kIn a o2 e
    rw [ho] at z; cases z; exact q
theorem prs_of (I : Inv X pins σ H s) : ∀ {ps : List Addr} {kvs : List (Key × V)}, Paired (fun p kv => SqT X.K H p [kV kv.1, kv.2]) ps kvs ->
    ∃ (ws : List (Value × Value)) (prs : List (Key × Value)), KV kvs prs ∧ prs.length = ps.length ∧ ws.length = ps.length ∧ ∀ (j : Nat) (u y : Value), ws[j]? = some (u, y) -> ∃ (b : Addr) (k : Key), ps[j]? = some b ∧ IsTup s.heap b #[u, y] ∧ prs[j]? = some (k, y) ∧ (mixKind X.prog X.w).is k u = true
  | _, _, .nil => ⟨[], [], .nil, rfl, rfl, fun j u y e => by simp at e⟩
  | _, _, .cons (a := p) (b := kv) h t => by
    obtain ⟨ws, prs, r, l1, l2, q⟩ := prs_of I t
    obtain ⟨its, rv, ht, _⟩ := I.tuple h
    obtain ⟨u, y, ei, ru, ry⟩ := vals2 rv
    subst ei
    refine ⟨(u, y) :: ws, (kv.1, y) :: prs, .cons ⟨rfl, ry⟩ r, by rw [List.length_cons, List.length_cons, l1], by rw [List.length_cons, List.length_cons, l2], fun j u' y' e => ?_⟩
    cases j with
    | zero =>
      have e' : (u, y) = (u', y') := Option.some.inj e
      cases e'
      exact ⟨p, kv.1, rfl, ht, rfl, kV_is ru⟩
    | succ j =>
      obtain ⟨b, k, e1, e2, e3, e4⟩ := q j u' y' (by simpa using e)
      exact ⟨b, k, by simpa using e1, e2, by simpa using e3, e4⟩
/-- dict(t), t a tuple of pairs -/
theorem call_dictT (hcalm : X.calm = true) : CallR X (.type "dict") (fun xs H Q => ∃ (a : Addr) (ps : List Addr) (kvs : List (Key × V)), xs = [.ref a] ∧ SqU X.K H a (ps.map V.ref) ∧ Paired (fun p kv => SqT X.K H p [kV kv.1, kv.2]) ps kvs ∧
    ∀ p, H p = none -> Q (.ref p) (upd H p (.dK (mergeK [] kvs)))) := by
  intro pins s σ H xs us Q I r q
  obtain ⟨a, ps, kvs, ex, hq, hp, q⟩ := q
  subst ex
  obtain ⟨u, eu, rx⟩ := vals1 r
  subst eu
  cases rx
  obtain ⟨its, o, n, rv, ho, hc, hd, hdat, hz⟩ := bare_of I hq
  have ei := refs_at rv
  subst ei
  rw [List.length_map] at hz
  obtain ⟨ws, prs, rel, l1, l2, hpr⟩ := prs_of I hp
  refine PySem.call_dict_pairs (knd := mixKind X.prog X.w) (kvs := prs) (PairArg.tuple a (ps.map Value.ref).toArray (fun j => (ps[j]?).getD 0) ws) (I.ok.hd hcalm) ⟨⟨o, n, ho, hc, hd, hdat⟩, ?_, fun j k v e => ?_⟩ ⟨by rw [l1, l2], fun i key v e => ?_⟩ (by rw [l2]; exact hz) fun h' tk hd' kp => ?_
  · simp [l2]
  · obtain ⟨b, k', e1, e2, _⟩ := hpr j k v e
    have e3 : (ps[j]?).getD 0 = b := by rw [e1]; rfl
    refine ⟨by simp [e1], .inl ?_⟩
    show s.heap.IsTuple ((ps[j]?).getD 0) #[k, v]
    rw [e3]
    exact e2
  · obtain ⟨b, k', _, _, e3, e4⟩ := hpr i key v e
    exact ⟨k', e3, e4⟩
  · have hm : (s.heap.objs.size == sysModules) = false := beq_eq_false_iff_ne.mpr (Nat.ne_of_gt I.big)
    have hlen : (mergeK [] kvs).length ≤ sizeLine := by
      have z := length_mergeK kvs []
      rw [List.length_nil, Nat.zero_add, rel.length, l1] at z
      exact Nat.le_trans z hz
    have J := I.laid (a := s.heap.objs.size) (o := .dK (mergeK [] kvs)) (h' := h') (t' := tk) (fun b o e => kp b o (by simp) e) (Nat.le_refl _) ⟨hlen, hm, merged [] prs, KV.merge rel .nil, hd'⟩
    exact ⟨.ref s.heap.objs.size, _, J, rfl, q _ (I.hok.fresh (Nat.le_refl _))⟩
/-- dict(d) -/
theorem call_dictD : CallR X (.type "dict") (fun xs H Q => ∃ (a : Addr) (kvs : List (Key × V)), xs = [.ref a] ∧ Rd H a (.dK kvs) ∧ ∀ p, H p = none -> Q (.ref p) (upd H p (.dK kvs))) := by
  intro pins s σ H xs us Q I r q
  obtain ⟨a, kvs, ex, e, q⟩ := q
  subst ex
  obtain ⟨u, eu, rx⟩ := vals1 r
  subst eu
  cases rx
  exact d_copyOf I e fun p s' np J => ⟨.ref p, _, J, rfl, q p np⟩
end
end DE

/-! DE5: built-in calls and methods over data. -/
namespace DE
open PySem PySem.Spec PyProof.Rows L2

theorem boolsOf_eq : ∀ {xs : List D} {bs : List Bool}, boolsOf xs = some bs -> xs = bs.map PyData.bool
  | [], _, h => by cases h; rfl
  | .bool b :: r, bs, h => by
    cases e : boolsOf r with
    | none => simp only [boolsOf, e] at h; cases h
    | some cs => simp only [boolsOf, e] at h; cases h; rw [boolsOf_eq e]; rfl
  | .none :: _, _, h => by cases h
  | .int _ :: _, _, h => by cases h
  | .str _ :: _, _, h => by cases h
  | .list _ :: _, _, h => by cases h
  | .tuple _ :: _, _, h => by cases h
  | .dict _ :: _, _, h => by cases h
theorem intsOf_eq : ∀ {xs : List D} {bs : List Int}, intsOf xs = some bs -> xs = bs.map PyData.int
  | [], _, h => by cases h; rfl
  | .int b :: r, bs, h => by
    cases e : intsOf r with
    | none => simp only [intsOf, e] at h; cases h
    | some cs => simp only [intsOf, e] at h; cases h; rw [intsOf_eq e]; rfl
  | .none :: _, _, h => by cases h
  | .bool _ :: _, _, h => by cases h
  | .str _ :: _, _, h => by cases h
  | .list _ :: _, _, h => by cases h
  | .tuple _ :: _, _, h => by cases h
  | .dict _ :: _, _, h => by cases h
theorem map_some {α β : Type} {o : Option α} {f : α -> β} {r : β} (h : o.map f = some r) : ∃ a, o = some a ∧ r = f a := by
  cases o with
  | none => cases h
  | some b => cases h; exact ⟨b, rfl, rfl⟩
theorem RdVs.one {K : PySem.W.Frag} {F H : Hp} {vs : List V} {d : D} (h : RdVs K F H vs [d]) : ∃ v, vs = [v] ∧ RdV K F H v d := by
  cases h with
  | cons a t => cases t; exact ⟨_, rfl, a⟩
section
variable {X : Cx}
theorem bltLen : CallR X (.builtin "len") (rVs X.K (bltD .len)) := by
  intro pins s σ H vs us Q I r h
  obtain ⟨F, ds, r0, sF, hds, hb, q⟩ := h
  match ds, hb with
  | [d], hb =>
    simp only [bltD] at hb
    obtain ⟨n, hn, rfl⟩ := map_some hb
    obtain ⟨v, rfl, hd⟩ := hds.one
    have fin : Q (.int n) H := fin_pure sF q rfl (.int _)
    have dct : ∀ xs, d = .dict xs -> wpAny (model X.prog X.w) X.A (call (.builtin "len") us) (EP X pins σ Q) X.xe s := fun xs z => by
      subst z
      obtain ⟨hx, hn⟩ := isX_no (show (if isX (.dict xs) = true then none else some xs.length) = some n from hn)
      obtain ⟨a, ks, rfl, h1, t⟩ := hd.dict sF hx
      cases hn
      rw [Vals.ref1 r]
      exact d_len I (.inl h1) fun t2 s' J => ⟨.int _, H, J, ⟨t2, by rw [t.len]⟩, fin⟩
    by_cases isd : ∃ xs, d = .dict xs
    · obtain ⟨xs, z⟩ := isd; exact dct xs z
    refine call_len pins s σ H [v] us Q I r ⟨v, n, rfl, ?_, fin⟩
    cases d with
    | str z =>
      obtain rfl := hd.str
      simp only [lenD] at hn
      split at hn
      · rename_i hz; cases hn; exact ⟨hz, rfl⟩
      · cases hn
    | list xs =>
      obtain ⟨a, ys, rfl, h1, t⟩ := hd.list sF
      cases hn
      exact .inl ⟨ys, h1, t.length.symm⟩
    | tuple xs =>
      obtain ⟨a, ys, rfl, h1, t, _⟩ := hd.tup sF
      cases hn
      exact .inr ⟨ys, h1, t.length.symm⟩
    | dict xs =>
      exact absurd ⟨_, rfl⟩ isd
    | _ => cases hn
theorem bltAbs : CallR X (.builtin "abs") (rVs X.K (bltD .abs)) := by
  intro pins s σ H vs us Q I r h
  obtain ⟨F, ds, r0, sF, hds, hb, q⟩ := h
  match ds, hb with
  | [.int i], hb =>
    obtain ⟨v, rfl, hd⟩ := hds.one
    obtain rfl := hd.int
    cases hb
    exact call_abs pins s σ H _ us Q I r ⟨i, rfl, fin_pure sF q rfl (.int _)⟩
theorem bltAll (hc : X.calm = true) : CallR X (.builtin "all") (rVs X.K (bltD .all)) := by
  intro pins s σ H vs us Q I r h
  obtain ⟨F, ds, r0, sF, hds, hb, q⟩ := h
  match ds, hb with
  | [.list xs], hb =>
    obtain ⟨bs, hn, rfl⟩ := map_some (show (boolsOf xs).map (fun bs => Rv.pure (.bool (bs.all id))) = some r0 from hb)
    obtain ⟨v, rfl, hd⟩ := hds.one
    obtain ⟨a, ys, rfl, h1, t⟩ := hd.list sF
    rw [boolsOf_eq hn] at t
    rw [t.bools] at h1
    exact cr_all hc pins s σ H _ us Q I r ⟨a, bs, rfl, h1, fin_pure sF q rfl (.bl _)⟩
theorem bltAny (hc : X.calm = true) : CallR X (.builtin "any") (rVs X.K (bltD .any)) := by
  intro pins s σ H vs us Q I r h
  obtain ⟨F, ds, r0, sF, hds, hb, q⟩ := h
  match ds, hb with
  | [.list xs], hb =>
    obtain ⟨bs, hn, rfl⟩ := map_some (show (boolsOf xs).map (fun bs => Rv.pure (.bool (bs.any id))) = some r0 from hb)
    obtain ⟨v, rfl, hd⟩ := hds.one
    obtain ⟨a, ys, rfl, h1, t⟩ := hd.list sF
    rw [boolsOf_eq hn] at t
    rw [t.bools] at h1
    exact cr_any hc pins s σ H _ us Q I r ⟨a, bs, rfl, h1, fin_pure sF q rfl (.bl _)⟩
theorem bltInt : CallR X (.type "int") (rVs X.K (bltD .int)) := by
  intro pins s σ H vs us Q I r h
  obtain ⟨F, ds, r0, sF, hds, hb, q⟩ := h
  match ds, hb with
  | [.int i], hb =>
    obtain ⟨v, rfl, hd⟩ := hds.one
    obtain rfl := hd.int
    cases hb
    exact call_int1 pins s σ H _ us Q I r (.inl ⟨i, rfl, fin_pure sF q rfl (.int _)⟩)
  | [.bool i], hb =>
    obtain ⟨v, rfl, hd⟩ := hds.one
    obtain rfl := hd.bl
    cases hb
    exact call_int1 pins s σ H _ us Q I r (.inr ⟨i, rfl, fin_pure sF q rfl (.int _)⟩)

theorem bltList (hc : X.calm = true) : CallR X (.type "list") (rVs X.K (bltD .list)) := by
  intro pins s σ H vs us Q I r h
  obtain ⟨F, ds, r0, sF, hds, hb, q⟩ := h
  match ds, hb with
  | [.list xs], hb =>
    obtain ⟨v, rfl, hd⟩ := hds.one
    obtain ⟨a, ys, rfl, h1, t⟩ := hd.list sF
    cases hb
    exact call_list_of pins s σ H _ us Q I r ⟨a, ys, rfl, .inl h1, fun p np => fin_lst sF q rfl t np⟩
  | [.tuple xs], hb =>
    obtain ⟨v, rfl, hd⟩ := hds.one
    obtain ⟨a, ys, rfl, h1, t, _⟩ := hd.tup sF
    cases hb
    exact call_list_of pins s σ H _ us Q I r ⟨a, ys, rfl, .inr h1, fun p np => fin_lst sF q rfl t np⟩
  | [.dict xs], hb =>
    obtain ⟨v, rfl, hd⟩ := hds.one
    obtain ⟨hx, hb⟩ := isX_no (show (if isX (.dict xs) = true then none else some (Rv.own (.list (xs.map (·.1))))) = some r0 from hb)
    obtain ⟨a, ks, rfl, h1, t⟩ := hd.dict sF hx
    cases hb
    exact call_list_dK hc pins s σ H _ us Q I r ⟨a, ks, rfl, h1, fun p np => fin_lst sF q rfl t.keys np⟩
theorem bltDict (hc : X.calm = true) : CallR X (.type "dict") (rVs X.K (bltD .dict)) := by
  intro pins s σ H vs us Q I r h
  obtain ⟨F, ds, r0, sF, hds, hb, q⟩ := h
  match ds, hb with
  | [.dict xs], hb =>
    obtain ⟨v, rfl, hd⟩ := hds.one
    obtain ⟨hx, hb⟩ := isX_no (show (if isX (.dict xs) = true then none else some (Rv.own (.dict xs))) = some r0 from hb)
    obtain ⟨a, ks, rfl, h1, t⟩ := hd.dict sF hx
    cases hb
    exact call_dictD pins s σ H _ us Q I r ⟨a, ks, rfl, .inl h1, fun p np => fin_dct sF q rfl t np⟩
  | [.list xs], hb =>
    obtain ⟨md, hm, rfl⟩ := map_some (show (pairsOf xs).map (fun ps => Rv.own (.dict (mergeKV [] ps))) = some r0 from hb)
    obtain ⟨v, rfl, hd⟩ := hds.one
    obtain ⟨a, ys, rfl, h1, t⟩ := hd.list sF
    obtain ⟨ps, kvs, rfl, h2, h3⟩ := pairs_dat t hm
    exact call_dictP hc pins s σ H _ us Q I r ⟨a, ps, kvs, rfl, h1, Paired.mapP h2 fun _ _ z => sqT_mono sF z, fun p np => fin_dct sF q rfl (DatK.merge _ _ h3 .nil) np⟩
  | [.tuple xs], hb =>
    obtain ⟨md, hm, rfl⟩ := map_some (show (pairsOf xs).map (fun ps => Rv.own (.dict (mergeKV [] ps))) = some r0 from hb)
    obtain ⟨v, rfl, hd⟩ := hds.one
    have hw := hd.whole sF
    obtain ⟨a, ys, rfl, h1, t, D1⟩ := hd.tup sF
    cases D1 with
    | tup hq ht =>
      obtain ⟨ps, kvs, rfl, h2, h3⟩ := pairs_dat ht hm
      exact call_dictT hc pins s σ H _ us Q I r ⟨a, ps, kvs, rfl, sqU_mono sF hq, Paired.mapP h2 fun _ _ z => sqT_mono sF z, fun p np => fin_dct sF q rfl (DatK.merge _ _ h3 .nil) np⟩
theorem bltTuple : CallR X (.type "tuple") (rVs X.K (bltD .tuple)) := by
  intro pins s σ H vs us Q I r h
  obtain ⟨F, ds, r0, sF, hds, hb, q⟩ := h
  match ds, hb with
  | [.list xs], hb =>
    obtain ⟨v, rfl, hd⟩ := hds.one
    obtain ⟨a, ys, rfl, h1, t⟩ := hd.list sF
    cases hb
    exact call_tupleF pins s σ H _ us Q I r ⟨a, ys, rfl, h1, fun p o np ho => fin_tup sF q rfl t np ho⟩
  | [.tuple xs], hb =>
    obtain ⟨v, rfl, hd⟩ := hds.one
    obtain ⟨a, ys, rfl, h1, t, D⟩ := hd.tup sF
    cases hb
    exact call_tuple_of pins s σ H _ us Q I r ⟨a, ys, rfl, .inr ⟨h1, fin_pure sF q rfl D⟩⟩
theorem bltSum (hc : X.calm = true) : CallR X (.builtin "sum") (rVs X.K (bltD .sum)) := by
  intro pins s σ H vs us Q I r h
  obtain ⟨F, ds, r0, sF, hds, hb, q⟩ := h
  match ds, hb with
  | [.list xs], hb =>
    obtain ⟨ns, hn, rfl⟩ := map_some (show (intsOf xs).map (fun ns => Rv.pure (.int ns.sum)) = some r0 from hb)
    obtain ⟨v, rfl, hd⟩ := hds.one
    obtain ⟨a, ys, rfl, h1, t⟩ := hd.list sF
    rw [intsOf_eq hn] at t
    rw [t.ints] at h1
    exact cr_sum hc pins s σ H _ us Q I r ⟨a, ns, rfl, h1, fin_pure sF q rfl (.int _)⟩
theorem RdVs.twoV {K : PySem.W.Frag} {F H : Hp} {vs : List V} {d e : D} (h : RdVs K F H vs [d, e]) : ∃ v w, vs = [v, w] ∧ RdV K F H v d ∧ RdV K F H w e := by
  cases h with
  | cons a t => cases t with
    | cons b t => cases t; exact ⟨_, _, rfl, a, b⟩
theorem bltMax (hc : X.calm = true) : CallR X (.builtin "max") (rVs X.K (bltD .max)) := by
  intro pins s σ H vs us Q I r h
  obtain ⟨F, ds, r0, sF, hds, hb, q⟩ := h
  match ds, hb with
  | [.int i, .int j], hb =>
    obtain ⟨v, w, rfl, hd, he⟩ := hds.twoV
    obtain rfl := hd.int
    obtain rfl := he.int
    cases hb
    exact call_max2 hc pins s σ H _ us Q I r ⟨i, j, rfl, fin_pure sF q rfl (.int _)⟩
theorem bltMin (hc : X.calm = true) : CallR X (.builtin "min") (rVs X.K (bltD .min)) := by
  intro pins s σ H vs us Q I r h
  obtain ⟨F, ds, r0, sF, hds, hb, q⟩ := h
  match ds, hb with
  | [.int i, .int j], hb =>
    obtain ⟨v, w, rfl, hd, he⟩ := hds.twoV
    obtain rfl := hd.int
    obtain rfl := he.int
    cases hb
    exact call_min2 hc pins s σ H _ us Q I r ⟨i, j, rfl, fin_pure sF q rfl (.int _)⟩
theorem okKeys_of {ks : List D} (h : okKeys ks = true) : PyData.plainAll ks = true ∧ PySem.W.AllAlike ks ∧ PySem.W.Sortable ks ∧ ∀ k ∈ ks, k.depth ≤ 64 := by
  unfold okKeys at h
  simp only [Bool.and_eq_true, Bool.or_eq_true, List.all_eq_true, decide_eq_true_eq] at h
  obtain ⟨h1, ⟨h2, h3⟩, h4⟩ := h
  refine ⟨h1, fun a ha b hb => h2 a ha b hb, ?_, h4⟩
  rcases h3 with h3 | h3
  · refine .inl fun d hd => ?_
    have z := h3 d hd
    split at z
    · exact ⟨_, _, rfl⟩
    · cases z
  · refine .inr fun d hd => ?_
    have z := h3 d hd
    split at z
    · cases z
    · cases z
    · rename_i n1 n2
      exact ⟨n1, n2⟩
theorem eachD {K : PySem.W.Frag} {F : Hp} : ∀ {vs : List V} {us : List Value} {ds : List D}, DatL K F vs ds -> Vals vs us -> PySem.W.EachIs (fun (u : Value) (d : D) => ∃ v, RelV v u ∧ Dat K F v d) us ds
  | _, _, _, .nil, .nil => .nil
  | _, _, _, .cons h t, .cons r s => .cons ⟨_, r, h⟩ (eachD t s)
theorem eachBack {K : PySem.W.Frag} {F : Hp} {us : List Value} {ds : List D} (h : PySem.W.EachIs (fun (u : Value) (d : D) => ∃ v, RelV v u ∧ Dat K F v d) us ds) : ∃ vs, Vals vs us ∧ DatL K F vs ds := by
  induction h with
  | nil => exact ⟨[], .nil, .nil⟩
  | cons h _ ih =>
    obtain ⟨v, r, d⟩ := h
    obtain ⟨vs, rs, ds⟩ := ih
    exact ⟨v :: vs, .cons r rs, .cons d ds⟩
theorem bltSorted (hu : X.A.units + 70 < cLine) : CallR X (.builtin "sorted") (rVs X.K (bltD .sorted)) := by
  intro pins s σ H vs us Q I r h
  obtain ⟨F, ds, r0, sF, hds, hb, q⟩ := h
  match ds, hb with
  | [.list xs], hb =>
    simp only [bltD] at hb
    split at hb
    · rename_i hk
      cases hb
      obtain ⟨h1, h2, h3, h4⟩ := okKeys_of hk
      obtain ⟨v, rfl, hd⟩ := hds.one
      obtain ⟨a, ys, rfl, hs, t⟩ := hd.list sF
      rw [Vals.ref1 r]
      obtain ⟨its, rv, hl, hz⟩ := I.list hs
      obtain ⟨as, hR⟩ := Dp.readsAll I xs ys its ((t.mono sF).dp h1) rv
      have er : PySem.W.EachIs (fun (u : Value) (d : D) => ∃ as, Reads s.heap u d as) its xs := by
        have z := PySem.W.readsAll_each (fun d : PyData => d) (vs := its) (bs := xs) (h := s.heap) (as := as) (by rw [List.map_id']; exact hR)
        exact z
      have lx : xs.length = its.length := by rw [← t.length, rv.length]
      refine PySem.W.sorted_data (enc := fun d : D => d) hl.isList (eachD t rv) er (by rw [List.map_id']; exact h2) (by rw [List.map_id']; exact h3) (by rw [lx, ← rv.length]; exact hz) (fun b hb => by have := h4 b hb; omega) fun out ho hout => ?_
      obtain ⟨ws, rw', hw⟩ := eachBack hout
      obtain ⟨ep, he'⟩ := PyProof.Rows.sortedAll_at s.heap its out.toArray
      have hlen : ws.length ≤ sizeLine := by
        rw [rw'.length, ho, lx, ← rv.length]; exact hz
      have np : H (s.heap.objs.size + 1) = none := I.hok.fresh (Nat.le_succ _)
      exact ⟨.ref _, upd H (s.heap.objs.size + 1) (.lst ws), I.laid (t' := s.toks) (fun _ _ => PyProof.Rows.sortedAll_old) (Nat.le_succ _) ⟨hlen, out, ep, rw', he'⟩, rfl, fin_lst sF q rfl hw np⟩
    · cases hb

/-! ### isinstance -/
def tyD : D -> String
  | .none => "NoneType"
  | .bool _ => "bool"
  | .int _ => "int"
  | .str _ => "str"
  | .list _ => "list"
  | .tuple _ => "tuple"
  | .dict _ => "dict"
theorem tyx_of {K : PySem.W.Frag} {F H : Hp} {v : V} {d : D} (sF : Same F H) (hx : isX d = false) (h : RdV K F H v d) : TyX K H v (.type (tyD d)) := by
  cases d with
  | none => obtain rfl := h.non; exact .base .non
  | bool b => obtain rfl := h.bl; exact .base (.bl _)
  | int b => obtain rfl := h.int; exact .base (.int _)
  | str b => obtain rfl := h.str; exact .base (.str _)
  | list xs =>
    obtain ⟨a, ys, rfl, h1, t⟩ := h.list sF
    rcases h1 with (h1 | ⟨o, h1⟩) | ⟨o, its, n, h1, h2, _⟩
    · exact .base (.lst h1)
    · exact .base (.frz h1)
    · exact .kList h1 h2
  | tuple xs =>
    obtain ⟨a, ys, rfl, h1, t, _⟩ := h.tup sF
    rcases h1 with (h1 | ⟨o, h1⟩) | ⟨o, its, n, h1, h2, _⟩
    · exact .base (.tup h1)
    · exact .fTuple h1
    · exact .kTuple h1 h2
  | dict xs =>
    obtain ⟨a, ys, rfl, h1, t⟩ := h.dict sF hx
    exact .base (.dK h1)
theorem kit_tf (T : Tf) (d : D) : kitB (tyD d) T.nm = some (isiD T d) := by
  cases T <;> cases d <;> first | rfl | decide +kernel
theorem bltIsi (T : Tf) : CallR X (.builtin "isinstance") (fun vs H Q => ∃ v, vs = [v, .ty T.nm] ∧ rV1 X.K (isiO T) v H Q) := by
  intro pins s σ H vs us Q I r h
  obtain ⟨v, rfl, F, d, r0, sF, hd, hb, q⟩ := h
  obtain ⟨hx, hb⟩ := isX_no (show (if isX d = true then none else some (Rv.pure (.bool (isiD T d)))) = some r0 from hb)
  cases hb
  exact call_isi pins s σ H _ us Q I r ⟨v, .ty T.nm, _, _, isiD T d, rfl, .ty _, tyx_of sF hx hd, kit_ty (kit_tf T d), fin_pure sF q rfl (.bl _)⟩
end
end DE

/-! DE6: each construct keeps what the data tell: expressions. -/
namespace DE
open PySem PySem.Spec PyProof.Rows L2

/-- an exception as it stands: its class by its name, its one field -/
def ExR (K : PySem.W.Frag) (F H : Hp) (e : Exn) (cls : Value) (d : Option Addr) : Prop := cls = .ref (He.ga K e.cls) ∧ match e.arg with
  | none => d = none
  | some (f, a) => ∃ dx v, d = some dx ∧ H dx = some (.xd [(f, v)]) ∧ Dat K F v a
def PostG {α β : Type} (K : PySem.W.Frag) (x : Fx) (σ : L2.St) (W : WX) (Res : Hp -> Hp -> DEnv -> β -> α -> Prop) (out : Out α) (F : Hp) (Q : β -> Hp -> Prop) : Prop := match out with
  | .ok r δ' => ∀ F' H' v, Rel K x F' σ H' δ' -> Same F F' -> Res F' H' δ' v r -> Q v H'
  | .ex e δ' => ∀ F' H' cls d, Rel K x F' σ H' δ' -> Same F F' -> ExR K F' H' e cls d -> W cls d σ H'
  | .no => False
section
variable {α β γ ι : Type} {K : PySem.W.Frag} {x : Fx} {σ : L2.St} {W : WX} {Res : Hp -> Hp -> DEnv -> β -> α -> Prop} {Res2 : Hp -> Hp -> DEnv -> ι -> γ -> Prop} {F F1 : Hp}
theorem PostG.base {out : Out α} {Q : β -> Hp -> Prop} (s : Same F F1) (h : PostG K x σ W Res out F Q) : PostG K x σ W Res out F1 Q := by
  cases out with
  | ok r δ => exact fun F' H' v R s' r => h F' H' v R (s.trans s') r
  | ex e δ => exact fun F' H' c d R s' r => h F' H' c d R (s.trans s') r
  | no => exact h
theorem PostG.bind {out : Out α} {k : α -> DEnv -> Out γ} {Q : ι -> Hp -> Prop} {Q1 : β -> Hp -> Prop} (h : PostG K x σ W Res2 (out.bind k) F Q)
    (g : ∀ a δ1 F1 H1 v, Rel K x F1 σ H1 δ1 -> Same F F1 -> Res F1 H1 δ1 v a -> PostG K x σ W Res2 (k a δ1) F1 Q -> Q1 v H1) : PostG K x σ W Res out F Q1 := by
  cases out with
  | ok a δ1 => exact fun F' H' v R s r => g a δ1 F' H' v R s r (PostG.base s h)
  | ex e δ => exact h
  | no => exact h
end
abbrev RV (K : PySem.W.Frag) (x : Fx) (σ : L2.St) : Hp -> Hp -> DEnv -> V -> Rv -> Prop := fun F' H' δ' v r => ResV K x F' H' σ δ' v r
abbrev RB : Hp -> Hp -> DEnv -> Bool -> Bool -> Prop := fun _ _ _ b b' => b = b'
abbrev RO : Hp -> Hp -> DEnv -> Option Int -> Option Int -> Prop := fun _ _ _ b b' => b = b'
abbrev RL (K : PySem.W.Frag) : Hp -> Hp -> DEnv -> List V -> List D -> Prop := fun F' _ _ vs ds => DatL K F' vs ds
inductive ResVs (K : PySem.W.Frag) (x : Fx) (F H : Hp) (σ : L2.St) (δ : DEnv) : List V -> List Rv -> Prop
  | nil : ResVs K x F H σ δ [] []
  | cons {v : V} {vs : List V} {r : Rv} {rs : List Rv} : ResV K x F H σ δ v (settle r) -> ResVs K x F H σ δ vs rs -> ResVs K x F H σ δ (v :: vs) (settle r :: rs)
inductive ArR (K : PySem.W.Frag) (F : Hp) (σ : L2.St) : List V -> List Ar -> Prop
  | nil : ArR K F σ [] []
  | d {v : V} {vs : List V} {a : D} {as : List Ar} : Dat K F v a -> ArR K F σ vs as -> ArR K F σ (v :: vs) (.d a :: as)
  | r {v : V} {vs : List V} {i : Nat} {as : List Ar} : σ[i]? = some (some v) -> ArR K F σ vs as -> ArR K F σ (v :: vs) (.r i :: as)
section
variable (K : PySem.W.Frag) (Γ : Calls) (gl : Str -> Option D) (W : WX)
def tE (c : CE) : TE := fun σ H Q => ∃ x F δ, Rel K x F σ H δ ∧ PostG K x σ W (RV K x σ) (evalE Γ gl c δ) F Q
def tT (c : CE) : TT := fun σ H Q => ∃ x F δ, Rel K x F σ H δ ∧ PostG K x σ W RB (evalT Γ gl c δ) F Q
def tO (c : CO) : TO := fun σ H Q => ∃ x F δ, Rel K x F σ H δ ∧ PostG K x σ W RO (evalO Γ gl c δ) F Q
def tEs (c : CEs) : TA := fun σ H Q => ∃ x F δ, Rel K x F σ H δ ∧ PostG K x σ W (RL K) (evalEs Γ gl c δ) F Q
def tRs (c : CEs) : TA := fun σ H Q => ∃ x F δ, Rel K x F σ H δ ∧ PostG K x σ W (fun F' H' δ' vs rs => ResVs K x F' H' σ δ' vs rs) (evalRs Γ gl c δ) F Q
def tAs (c : CAs) : TA := fun σ H Q => ∃ x F δ, Rel K x F σ H δ ∧ PostG K x σ W (fun F' _ _ vs as => ArR K F' σ vs as) (evalAs Γ gl c δ) F Q
end
theorem PE.imp {X : Cx} {e : Expr} {t t' : TE} (h : PE X e t) (i : ∀ σ H Q, t' σ H Q -> t σ H Q) : PE X e t' := ⟨fun pins s σ H Q I q => h.run pins s σ H Q I (i _ _ _ q)⟩
theorem PT.imp {X : Cx} {e : Expr} {t t' : TT} (h : PT X e t) (i : ∀ σ H Q, t' σ H Q -> t σ H Q) : PT X e t' := ⟨fun pins s σ H Q I q => h.run pins s σ H Q I (i _ _ _ q)⟩
theorem PW.imp {X : Cx} {e : Expr} {t t' : TT} (h : PW X e t) (i : ∀ σ H Q, t' σ H Q -> t σ H Q) : PW X e t' := ⟨fun w pins s σ H Q I q => h.run w pins s σ H Q I (i _ _ _ q)⟩
theorem PA.imp {X : Cx} {e : List Expr} {t t' : TA} (h : PA X e t) (i : ∀ σ H Q, t' σ H Q -> t σ H Q) : PA X e t' := ⟨fun p pins s σ H Q I q => h.run p pins s σ H Q I (i _ _ _ q)⟩
theorem PO.imp {X : Cx} {e : Option Expr} {t t' : TO} (h : PO X e t) (i : ∀ σ H Q, t' σ H Q -> t σ H Q) : PO X e t' := ⟨fun pins s σ H Q I q => h.run pins s σ H Q I (i _ _ _ q)⟩

theorem rd_settle (δ : DEnv) (r : Rv) : rd δ (settle r) = rd δ r := by cases r <;> rfl
theorem settle2 (r : Rv) : settle (settle r) = settle r := by cases r <;> rfl
section
variable {K : PySem.W.Frag} {x : Fx} {F H : Hp} {σ : L2.St} {δ : DEnv} {W : WX}
/-- two values read, an operation -/
theorem two_of {k : D -> D -> Option Rv} {r1 r2 : Rv} {Q : VK} {v w : V} (R : Rel K x F σ H δ) (h1 : ResV K x F H σ δ v (settle r1)) (h2 : ResV K x F H σ δ w r2)
    (p : PostG K x σ W (RV K x σ) (two δ r1 r2 k) F Q) : rV2 K k v w H Q := by
  unfold two at p
  cases e1 : rd δ (settle r1) with
  | none => simp only [e1] at p; exact p.elim
  | some d1 =>
    cases e2 : rd δ r2 with
    | none => simp only [e1, e2] at p; exact p.elim
    | some d2 =>
      simp only [e1, e2] at p
      cases e3 : k d1 d2 with
      | none => rw [e3] at p; exact p.elim
      | some r =>
        rw [e3] at p
        exact ⟨F, d1, d2, r, R.sub, R.read h1 e1, R.read h2 e2, e3, fun F' H' u g n => p F' H' u (R.grw g) g.f (R.resN n)⟩
theorem rdTo_of {k : D -> Option Rv} {r : Rv} {Q : VK} {v : V} (R : Rel K x F σ H δ) (h : ResV K x F H σ δ v r)
    (p : PostG K x σ W (RV K x σ) (rdTo δ r k) F Q) : ∃ d y, rd δ r = some d ∧ RdV K F H v d ∧ k d = some y ∧ PostG K x σ W (RV K x σ) (.ok y δ) F Q := by
  unfold rdTo at p
  cases e1 : rd δ r with
  | none => simp only [e1] at p; exact p.elim
  | some d1 =>
    simp only [e1] at p
    cases e3 : k d1 with
    | none => rw [e3] at p; exact p.elim
    | some y => rw [e3] at p; exact ⟨d1, y, rfl, R.read h e1, e3, p⟩
end

section
variable {X : Cx} {Γ : Calls} {gl : Str -> Option D} {W : WX} {a b d : Expr} {ca cb cd : CE} {pos : Pos}

theorem snd_slot {i : Nat} {y : Str} (hN : X.N[i]? = some y) (hv : Vis X.env.scope y) (h1 : (y == ("__debug__" : Str)) = false) (h2 : (y == ("__classdict__" : Str)) = false) : PE X (.Name y pos) (tE X.K Γ gl W (.slot i)) := by
  refine PE.imp (pe_var hN hv h1 h2) fun σ H Q ⟨x, F, δ, R, p⟩ => ?_
  unfold evalE at p
  cases e : δ[i]? with
  | none => simp only [e] at p; exact p.elim
  | some c =>
    have hs := R.slot i c e
    have go : ∀ v, σ[i]? = some (some v) -> PostG X.K x σ W (RV X.K x σ) (.ok (.bor i) δ) F Q -> tVar i σ H Q := fun v hv p => ⟨v, hv, p F H v R (Same.refl _) hv⟩
    cases c with
    | emp => simp only [e] at p; exact p.elim
    | pure d => simp only [e] at p; obtain ⟨v, h, _⟩ := hs; exact go v h p
    | own d => simp only [e] at p; obtain ⟨v, h, _⟩ := hs; exact go _ h p
    | inp d => simp only [e] at p; obtain ⟨v, h, _⟩ := hs; exact go _ h p
theorem snd_con {v : V} (h : PE X a (tC v)) {dt : D} (hd : ∀ F, Dat X.K F v dt) : PE X a (tE X.K Γ gl W (.con dt)) := by
  refine PE.imp h fun σ H Q ⟨x, F, δ, R, p⟩ => ?_
  unfold evalE at p
  exact p F H v R (Same.refl _) (hd F)
theorem snd_glb {y : Str} (h : ∀ dt, gl y = some dt -> ∃ v, PE X (.Name y pos) (tC v) ∧ ∀ F, Dat X.K F v dt) (hn : gl y ≠ none) : PE X (.Name y pos) (tE X.K Γ gl W (.glb y)) := by
  cases e : gl y with
  | none => exact absurd e hn
  | some dt =>
    obtain ⟨v, h1, h2⟩ := h dt e
    refine PE.imp h1 fun σ H Q ⟨x, F, δ, R, p⟩ => ?_
    unfold evalE at p
    rw [e] at p
    exact p F H v R (Same.refl _) (h2 F)
/-- two expressions, then an operation by values -/
theorem snd_two {k : D -> D -> Option Rv} {σ : L2.St} {H : Hp} {Q : VK} {x : Fx} {F : Hp} {δ : DEnv} (R : Rel X.K x F σ H δ)
    (p : PostG X.K x σ W (RV X.K x σ) ((evalE Γ gl ca δ).bind fun r1 δ1 => (evalE Γ gl cb δ1).bind fun r2 δ2 => two δ2 r1 r2 k) F Q) :
    tOp (rV2 X.K k) (tE X.K Γ gl W ca) (tE X.K Γ gl W cb) σ H Q := by
  refine ⟨x, F, δ, R, p.bind fun r1 δ1 F1 H1 v R1 s1 rv1 p1 => ?_⟩
  obtain ⟨F2, R2, s2, rv2⟩ := R1.settle rv1
  refine ⟨x, F2, δ1, R2, (p1.base s2).bind fun r2 δ2 F3 H3 w R3 s3 rv3 p3 => ?_⟩
  exact two_of R3 (rv2.stay s3) rv3 p3
theorem snd_bin {op : Operator} (ha : PE X a (tE X.K Γ gl W ca)) (hb : PE X b (tE X.K Γ gl W cb)) : PE X (.BinOp a op b pos) (tE X.K Γ gl W (.bin op ca cb)) :=
  PE.imp (pe_op (opBin op) ha hb) fun σ H Q ⟨x, F, δ, R, p⟩ => by
    unfold evalE at p
    exact snd_two R p
theorem snd_cmp {op : CmpOp} (hu : X.A.units + 65 < cLine) (hm : behindInMarks op b = false) (ha : PE X a (tE X.K Γ gl W ca)) (hb : PE X b (tE X.K Γ gl W cb)) : PE X (.Compare a [op] [b] pos) (tE X.K Γ gl W (.cmp op ca cb)) :=
  PE.imp (pe_cmpR (opCmp op hu) ha hb hm) fun σ H Q ⟨x, F, δ, R, p⟩ => by
    unfold evalE at p
    exact snd_two R p
theorem snd_idx (hs : PlainIx b) (ha : PE X a (tE X.K Γ gl W ca)) (hb : PE X b (tE X.K Γ gl W cb)) : PE X (.Subscript a b pos) (tE X.K Γ gl W (.idx ca cb)) :=
  PE.imp (pe_ix opIdx ha hb hs) fun σ H Q ⟨x, F, δ, R, p⟩ => by
    unfold evalE at p
    exact snd_two R p
theorem snd_neg (ha : PE X a (tE X.K Γ gl W ca)) : PE X (.UnaryOp .USub a pos) (tE X.K Γ gl W (.neg ca)) :=
  PE.imp (pe_un un_neg ha) fun σ H Q ⟨x, F, δ, R, p⟩ => by
    unfold evalE at p
    refine ⟨x, F, δ, R, p.bind fun r1 δ1 F1 H1 v R1 s1 rv1 p1 => ?_⟩
    obtain ⟨d, y, _, hd, e, p2⟩ := rdTo_of R1 rv1 p1
    cases d with
    | int i =>
      obtain rfl := hd.int
      cases e
      exact ⟨i, rfl, p2 F1 H1 _ R1 (Same.refl _) (.int _)⟩
    | _ => cases e
theorem snd_nt (ha : PE X a (tE X.K Γ gl W ca)) : PE X (.UnaryOp .Not a pos) (tE X.K Γ gl W (.nt ca)) :=
  PE.imp (pe_not ha) fun σ H Q ⟨x, F, δ, R, p⟩ => by
    unfold evalE at p
    refine ⟨x, F, δ, R, p.bind fun r1 δ1 F1 H1 v R1 s1 rv1 p1 => ?_⟩
    obtain ⟨d, y, _, hd, e, p2⟩ := rdTo_of R1 rv1 p1
    cases d with
    | bool i =>
      obtain rfl := hd.bl
      cases e
      exact ⟨i, rfl, p2 F1 H1 _ R1 (Same.refl _) (.bl _)⟩
    | _ => cases e
theorem snd_cmp2 {o p : CmpOp} (hu : X.A.units + 65 < cLine) (hm : lastMarks [o, p] [b, d] = false) (ha : PE X a (tE X.K Γ gl W ca)) (hb : PE X b (tE X.K Γ gl W cb)) (hd : PE X d (tE X.K Γ gl W cd)) :
    PE X (.Compare a [o, p] [b, d] pos) (tE X.K Γ gl W (.cmp2 o p ca cb cd)) :=
  PE.imp (pe_chain (opCmp o hu) (opCmp p hu) ha hb hd hm) fun σ H Q ⟨x, F, δ, R, pp⟩ => by
    unfold evalE at pp
    refine ⟨x, F, δ, R, pp.bind fun r1 δ1 F1 H1 v R1 s1 rv1 p1 => ?_⟩
    obtain ⟨F2, R2, s2, rv2⟩ := R1.settle rv1
    refine ⟨x, F2, δ1, R2, (p1.base s2).bind fun r2 δ2 F3 H3 w R3 s3 rv3 p3 => ?_⟩
    obtain ⟨F4, R4, s4, rv4⟩ := R3.settle rv3
    replace p3 := p3.base s4
    have rv1' := rv2.stay (δ' := δ2) (H' := H3) (s3.trans s4)
    cases e1 : rd δ2 (settle r1) with
    | none => simp only [e1] at p3; exact p3.elim
    | some d1 =>
      cases e2 : rd δ2 r2 with
      | none => simp only [e1, e2] at p3; exact p3.elim
      | some d2 =>
        simp only [e1, e2] at p3
        cases e3 : cmpD o d1 d2 with
        | none => simp only [e3] at p3; exact p3.elim
        | some bb =>
          refine ⟨F4, d1, d2, .pure (.bool bb), R4.sub, R4.read rv1' e1, R4.read rv4 (by rw [rd_settle]; exact e2), by show Option.map _ (cmpD o d1 d2) = _; rw [e3]; rfl, fun F5 H5 u g n => ?_⟩
          have R5 := R4.grw g
          have hu : u = .bl bb := by
            have n : Dat X.K F5 u (.bool bb) := n
            cases n; rfl
          refine ⟨bb, hu, ?_⟩
          cases bb with
          | false =>
            simp only [e3] at p3
            rw [if_neg Bool.false_ne_true]
            exact p3 F5 H5 _ R5 g.f (.bl _)
          | true =>
            simp only [e3] at p3
            rw [if_pos rfl]
            refine ⟨x, F5, δ2, R5, (p3.base g.f).bind fun r3 δ3 F6 H6 z R6 s6 rv6 p6 => ?_⟩
            exact two_of R6 (rv4.stay (δ' := δ3) (H' := H6) (g.f.trans s6)) rv6 p6
theorem snd_one {op : BoolOp} {c : CE} (ha : PE X a (tE X.K Γ gl W c)) : PE X (.BoolOp op [a] pos) (tE X.K Γ gl W c) := pe_one ha
theorem snd_an {rest : List Expr} (ha : PE X a (tE X.K Γ gl W ca)) (hb : PE X (.BoolOp .And (b :: rest) pos) (tE X.K Γ gl W cb)) : PE X (.BoolOp .And (a :: b :: rest) pos) (tE X.K Γ gl W (.an ca cb)) :=
  PE.imp (pe_and ha hb) fun σ H Q ⟨x, F, δ, R, p⟩ => by
    unfold evalE at p
    refine ⟨x, F, δ, R, p.bind fun r1 δ1 F1 H1 v R1 s1 rv1 p1 => ?_⟩
    cases e : rd δ1 r1 with
    | none => simp only [e] at p1; exact p1.elim
    | some dd =>
      have hd := R1.read rv1 e
      cases dd with
      | bool t =>
        obtain rfl := hd.bl
        refine ⟨t, rfl, ?_⟩
        cases t with
        | true => simp only [e] at p1; rw [if_pos rfl]; exact ⟨x, F1, δ1, R1, p1⟩
        | false => simp only [e] at p1; rw [if_neg Bool.false_ne_true]; exact p1 F1 H1 _ R1 (Same.refl _) (.bl _)
      | _ => simp only [e] at p1; exact p1.elim
theorem snd_or {rest : List Expr} (ha : PE X a (tE X.K Γ gl W ca)) (hb : PE X (.BoolOp .Or (b :: rest) pos) (tE X.K Γ gl W cb)) : PE X (.BoolOp .Or (a :: b :: rest) pos) (tE X.K Γ gl W (.orr ca cb)) :=
  PE.imp (pe_or ha hb) fun σ H Q ⟨x, F, δ, R, p⟩ => by
    unfold evalE at p
    refine ⟨x, F, δ, R, p.bind fun r1 δ1 F1 H1 v R1 s1 rv1 p1 => ?_⟩
    cases e : rd δ1 r1 with
    | none => simp only [e] at p1; exact p1.elim
    | some dd =>
      have hd := R1.read rv1 e
      cases dd with
      | bool t =>
        obtain rfl := hd.bl
        refine ⟨t, rfl, ?_⟩
        cases t with
        | false => simp only [e] at p1; rw [if_neg Bool.false_ne_true]; exact ⟨x, F1, δ1, R1, p1⟩
        | true => simp only [e] at p1; rw [if_pos rfl]; exact p1 F1 H1 _ R1 (Same.refl _) (.bl _)
      | _ => simp only [e] at p1; exact p1.elim
theorem snd_ife (hc : PT X d (tT X.K Γ gl W cd)) (ha : PE X a (tE X.K Γ gl W ca)) (hb : PE X b (tE X.K Γ gl W cb)) : PE X (.IfExp d a b pos) (tE X.K Γ gl W (.ife cd ca cb)) :=
  PE.imp (pe_ifExp hc ha hb) fun σ H Q ⟨x, F, δ, R, p⟩ => by
    unfold evalE at p
    refine ⟨x, F, δ, R, p.bind fun t δ1 F1 H1 t' R1 s1 rv1 p1 => ?_⟩
    obtain rfl : t' = t := rv1
    cases t' with
    | true => rw [if_pos rfl] at p1 ⊢; exact ⟨x, F1, δ1, R1, p1⟩
    | false => rw [if_neg Bool.false_ne_true] at p1 ⊢; exact ⟨x, F1, δ1, R1, p1⟩
/-! ### tests -/
theorem snd_tnt (ha : PT X a (tT X.K Γ gl W ca)) : PT X (.UnaryOp .Not a pos) (tT X.K Γ gl W (.nt ca)) :=
  PT.imp (pt_not ha) fun σ H Q ⟨x, F, δ, R, p⟩ => by
    unfold evalT at p
    refine ⟨x, F, δ, R, p.bind fun t δ1 F1 H1 t' R1 s1 rv1 p1 => ?_⟩
    obtain rfl : t' = t := rv1
    exact p1 F1 H1 _ R1 (Same.refl _) rfl
theorem snd_tan1 (ha : PT X a (tT X.K Γ gl W ca)) : PW X (.BoolOp .And [a] pos) (tT X.K Γ gl W ca) := pw_and1 ha
theorem snd_tor1 (ha : PT X a (tT X.K Γ gl W ca)) : PW X (.BoolOp .Or [a] pos) (tT X.K Γ gl W ca) := pw_or1 ha
theorem snd_tan {rest : List Expr} (ha : PT X a (tT X.K Γ gl W ca)) (hb : PW X (.BoolOp .And (b :: rest) pos) (tT X.K Γ gl W cb)) : PW X (.BoolOp .And (a :: b :: rest) pos) (tT X.K Γ gl W (.an ca cb)) :=
  PW.imp (pw_and ha hb) fun σ H Q ⟨x, F, δ, R, p⟩ => by
    unfold evalT at p
    refine ⟨x, F, δ, R, p.bind fun t δ1 F1 H1 t' R1 s1 rv1 p1 => ?_⟩
    obtain rfl : t' = t := rv1
    cases t' with
    | true => rw [if_pos rfl] at p1 ⊢; exact ⟨x, F1, δ1, R1, p1⟩
    | false => rw [if_neg Bool.false_ne_true] at p1 ⊢; exact p1 F1 H1 _ R1 (Same.refl _) rfl
theorem snd_tor {rest : List Expr} (ha : PT X a (tT X.K Γ gl W ca)) (hb : PW X (.BoolOp .Or (b :: rest) pos) (tT X.K Γ gl W cb)) : PW X (.BoolOp .Or (a :: b :: rest) pos) (tT X.K Γ gl W (.orr ca cb)) :=
  PW.imp (pw_or ha hb) fun σ H Q ⟨x, F, δ, R, p⟩ => by
    unfold evalT at p
    refine ⟨x, F, δ, R, p.bind fun t δ1 F1 H1 t' R1 s1 rv1 p1 => ?_⟩
    obtain rfl : t' = t := rv1
    cases t' with
    | true => rw [if_pos rfl] at p1 ⊢; exact p1 F1 H1 _ R1 (Same.refl _) rfl
    | false => rw [if_neg Bool.false_ne_true] at p1 ⊢; exact ⟨x, F1, δ1, R1, p1⟩
/-- a datum's truth -/
theorem truV_of {K : PySem.W.Frag} {F H : Hp} {v : V} {dd : D} {t : Bool} (sF : Same F H) (h : RdV K F H v dd) (e : truthD dd = some t) : TruV K v H t := by
  cases dd with
  | none => obtain rfl := h.non; cases e; rfl
  | bool z => obtain rfl := h.bl; cases e; rfl
  | int z => obtain rfl := h.int; cases e; rfl
  | str z =>
    obtain rfl := h.str
    simp only [truthD] at e
    split at e
    · rename_i hz; cases e; exact ⟨hz, rfl⟩
    · cases e
  | list xs =>
    obtain ⟨a, ys, rfl, h1, t⟩ := h.list sF
    cases e
    exact .inl ⟨ys, h1, by cases t <;> rfl⟩
  | tuple xs =>
    obtain ⟨a, ys, rfl, h1, t, _⟩ := h.tup sF
    cases e
    exact .inr (.inl ⟨ys, h1, by cases t <;> rfl⟩)
  | dict xs =>
    obtain ⟨hx, e⟩ := isX_no (show (if isX (.dict xs) = true then none else some (!xs.isEmpty)) = some _ from e)
    obtain ⟨a, ks, rfl, h1, t⟩ := h.dict sF hx
    cases e
    exact .inr (.inr ⟨ks, h1, by cases t <;> rfl⟩)
/-- what is no not, and, or -/
def genT : CE -> Bool
  | .nt _ => false
  | .an _ _ => false
  | .orr _ _ => false
  | _ => true
theorem evalT_gen {c : CE} (h : genT c = true) (δ : DEnv) : evalT Γ gl c δ = (evalE Γ gl c δ).bind fun r δ1 => rdTo δ1 r truthD := by
  cases c <;> first | (simp [genT] at h; done) | simp only [evalT]
theorem rdToB_of {K : PySem.W.Frag} {x : Fx} {F H : Hp} {σ : L2.St} {δ : DEnv} {W : WX} {k : D -> Option Bool} {r : Rv} {Q : Bool -> Hp -> Prop} {v : V} (R : Rel K x F σ H δ) (h : ResV K x F H σ δ v r)
    (p : PostG K x σ W RB (rdTo δ r k) F Q) : ∃ d y, rd δ r = some d ∧ RdV K F H v d ∧ k d = some y ∧ Q y H := by
  unfold rdTo at p
  cases e1 : rd δ r with
  | none => simp only [e1] at p; exact p.elim
  | some d1 =>
    simp only [e1] at p
    cases e3 : k d1 with
    | none => rw [e3] at p; exact p.elim
    | some y => rw [e3] at p; exact ⟨d1, y, rfl, R.read h e1, e3, p F H y R (Same.refl _) rfl⟩
theorem snd_tgen {c : CE} (hg : genT c = true) (ha : PE X a (tE X.K Γ gl W c)) (he : ∀ whole, isTrue a X.env whole = (do let v ← whole; standAt a.pos; holding [v] (truthy v))) : PT X a (tT X.K Γ gl W c) :=
  PT.imp (pt_truth ha he) fun σ H Q ⟨x, F, δ, R, p⟩ => by
    rw [evalT_gen hg] at p
    refine ⟨x, F, δ, R, p.bind fun r1 δ1 F1 H1 v R1 s1 rv1 p1 => ?_⟩
    obtain ⟨dd, t, _, hd, e, q⟩ := rdToB_of R1 rv1 p1
    exact ⟨t, truV_of R1.sub hd e, q⟩
theorem snd_tcmp {op : CmpOp} (hu : X.A.units + 65 < cLine) (hm : behindInMarks op b = false) (ha : PE X a (tE X.K Γ gl W ca)) (hb : PE X b (tE X.K Γ gl W cb)) : PT X (.Compare a [op] [b] pos) (tT X.K Γ gl W (.cmp op ca cb)) :=
  PT.imp (pt_cmpR (opCmp op hu) ha hb hm) fun σ H Q ⟨x, F, δ, R, p⟩ => by
    rw [evalT_gen rfl] at p
    unfold evalE at p
    refine ⟨x, F, δ, R, ?_⟩
    cases e1 : evalE Γ gl ca δ with
    | no => rw [e1] at p; exact p.elim
    | ex e δ1 => rw [e1] at p; exact p
    | ok r1 δ1 =>
      rw [e1] at p
      intro F1 H1 v R1 s1 rv1
      obtain ⟨F2, R2, s2, rv2⟩ := R1.settle rv1
      refine ⟨x, F2, δ1, R2, ?_⟩
      replace p := PostG.base (s1.trans s2) p
      simp only [Out.bind] at p
      cases e2 : evalE Γ gl cb δ1 with
      | no => rw [e2] at p; exact p.elim
      | ex e δ2 => rw [e2] at p; exact p
      | ok r2 δ2 =>
        rw [e2] at p
        intro F3 H3 w R3 s3 rv3
        replace p := PostG.base s3 p
        simp only [Out.bind, two] at p
        have h1 := rv2.stay (δ' := δ2) (H' := H3) s3
        cases e3 : rd δ2 (settle r1) with
        | none => simp only [e3] at p; exact p.elim
        | some d1 =>
          cases e4 : rd δ2 r2 with
          | none => simp only [e3, e4] at p; exact p.elim
          | some d2 =>
            simp only [e3, e4] at p
            cases e5 : cmpD op d1 d2 with
            | none => simp only [e5, ofO, Option.map] at p; exact p.elim
            | some t =>
              simp only [e5, ofO, Option.map, rdTo, rd, truthD] at p
              refine ⟨F3, d1, d2, .pure (.bool t), R3.sub, R3.read h1 e3, R3.read rv3 e4, by show Option.map _ (cmpD op d1 d2) = _; rw [e5]; rfl, fun F' H' u g n => ?_⟩
              have n : Dat X.K F' u (.bool t) := n
              cases n
              exact ⟨t, rfl, p F' H' t (R3.grw g) g.f rfl⟩
end
end DE

/-! DE7: displays, slices, built-in calls, methods. -/
namespace DE
open PySem PySem.Spec PyProof.Rows L2
section
variable {X : Cx} {Γ : Calls} {gl : Str -> Option D} {W : WX} {a b d : Expr} {ca cb cd : CE} {pos : Pos} {es : List Expr} {ces : CEs}

theorem noStar_each {e : Expr} {es : List Expr} {env : Env} (h : noStar e = true) : starEach (e :: es) env = (false, eval e env) :: starEach es env := by
  cases e <;> first | (simp [noStar] at h; done) | simp only [starEach]
/-! ### lists of expressions -/
theorem snd_es_nil : PA X [] (tEs X.K Γ gl W .nil) :=
  PA.imp pa_nil fun σ H Q ⟨x, F, δ, R, p⟩ => by
    unfold evalEs at p
    exact p F H [] R (Same.refl _) .nil
theorem snd_es_cons {e : Expr} {c : CE} (hs : noStar e = true) (he : PE X e (tE X.K Γ gl W c)) (hr : PA X es (tEs X.K Γ gl W ces)) : PA X (e :: es) (tEs X.K Γ gl W (.cons c ces)) :=
  PA.imp (pa_cons he hr (noStar_each hs)) fun σ H Q ⟨x, F, δ, R, p⟩ => by
    unfold evalEs at p
    refine ⟨x, F, δ, R, p.bind fun r1 δ1 F1 H1 v R1 s1 rv1 p1 => ?_⟩
    cases e1 : esc r1 δ1 with
    | no => rw [e1] at p1; exact p1.elim
    | ex e δ2 => exact absurd e1 esc_nex
    | ok dt δ2 =>
      rw [e1] at p1
      simp only [Out.bind] at p1
      obtain ⟨F2, R2, s2, hd⟩ := R1.esc rv1 e1
      refine ⟨x, F2, δ2, R2, (PostG.base s2 p1).bind fun ds δ3 F3 H3 vs R3 s3 hds p3 => ?_⟩
      exact p3 F3 H3 (v :: vs) R3 (Same.refl _) (.cons (hd.mono s3) hds)
theorem snd_rs_nil : PA X [] (tRs X.K Γ gl W .nil) :=
  PA.imp pa_nil fun σ H Q ⟨x, F, δ, R, p⟩ => by
    unfold evalRs at p
    exact p F H [] R (Same.refl _) .nil
theorem snd_rs_cons {e : Expr} {c : CE} (hs : noStar e = true) (he : PE X e (tE X.K Γ gl W c)) (hr : PA X es (tRs X.K Γ gl W ces)) : PA X (e :: es) (tRs X.K Γ gl W (.cons c ces)) :=
  PA.imp (pa_cons he hr (noStar_each hs)) fun σ H Q ⟨x, F, δ, R, p⟩ => by
    unfold evalRs at p
    refine ⟨x, F, δ, R, p.bind fun r1 δ1 F1 H1 v R1 s1 rv1 p1 => ?_⟩
    obtain ⟨F2, R2, s2, rv2⟩ := R1.settle rv1
    refine ⟨x, F2, δ1, R2, (PostG.base s2 p1).bind fun ds δ3 F3 H3 vs R3 s3 hds p3 => ?_⟩
    exact p3 F3 H3 (v :: vs) R3 (Same.refl _) (.cons (rv2.stay s3) hds)
theorem snd_tup {k : Nat} (h : PA X es (tEs X.K Γ gl W ces)) : PE X (.Tuple es k pos) (tE X.K Γ gl W (.tup ces)) :=
  PE.imp (pe_tupF h) fun σ H Q ⟨x, F, δ, R, p⟩ => by
    unfold evalE at p
    refine ⟨x, F, δ, R, p.bind fun ds δ1 F1 H1 vs R1 s1 hds p1 => ?_⟩
    have hl := DatL.length hds
    split at p1
    · rename_i hz
      refine ⟨by omega, fun q o np ho => ?_⟩
      exact p1 _ _ _ (R1.still _ np) (same_upd (R1.nF np)) (.tup ⟨.inl (.inr ⟨_, upd_same⟩), .inl ⟨_, _, upd_same, ho⟩⟩ (DatL.mono (same_upd (R1.nF np)) hds))
    · exact p1.elim
theorem snd_lst (h : PA X es (tEs X.K Γ gl W ces)) : PE X (.List es pos) (tE X.K Γ gl W (.lst ces)) :=
  PE.imp (pe_lst h) fun σ H Q ⟨x, F, δ, R, p⟩ => by
    unfold evalE at p
    refine ⟨x, F, δ, R, p.bind fun ds δ1 F1 H1 vs R1 s1 hds p1 => ?_⟩
    have hl := DatL.length hds
    split at p1
    · rename_i hz
      refine ⟨by omega, fun q np => ?_⟩
      exact p1 F1 _ _ (R1.beside _ np) (Same.refl _) (R1.resN (u := .ref q) (r := .own (.list ds)) ⟨q, rfl, ⟨vs, upd_same, hds⟩, R1.nF np, np⟩)
    · exact p1.elim
/-! ### slices -/
theorem snd_o_non : PO X none (tO X.K Γ gl W .non) :=
  PO.imp po_none fun σ H Q ⟨x, F, δ, R, p⟩ => by
    unfold evalO at p
    exact p F H none R (Same.refl _) rfl
theorem rdToO_of {K : PySem.W.Frag} {x : Fx} {F H : Hp} {σ : L2.St} {δ : DEnv} {W : WX} {k : D -> Option (Option Int)} {r : Rv} {Q : Option Int -> Hp -> Prop} {v : V} (R : Rel K x F σ H δ) (h : ResV K x F H σ δ v r)
    (p : PostG K x σ W RO (rdTo δ r k) F Q) : ∃ d y, RdV K F H v d ∧ k d = some y ∧ Q y H := by
  unfold rdTo at p
  cases e1 : rd δ r with
  | none => simp only [e1] at p; exact p.elim
  | some d1 =>
    simp only [e1] at p
    cases e3 : k d1 with
    | none => rw [e3] at p; exact p.elim
    | some y => rw [e3] at p; exact ⟨d1, y, R.read h e1, e3, p F H y R (Same.refl _) rfl⟩
theorem snd_o_som (ha : PE X a (tE X.K Γ gl W ca)) : PO X (some a) (tO X.K Γ gl W (.som ca)) :=
  PO.imp (po_some ha) fun σ H Q ⟨x, F, δ, R, p⟩ => by
    unfold evalO at p
    refine ⟨x, F, δ, R, p.bind fun r1 δ1 F1 H1 v R1 s1 rv1 p1 => ?_⟩
    obtain ⟨dd, y, hd, e, q⟩ := rdToO_of R1 rv1 p1
    cases dd with
    | int i =>
      obtain rfl := hd.int
      cases e
      exact ⟨i, rfl, q⟩
    | _ => cases e
theorem snd_slc {lo hi : Option Expr} {clo chi : CO} {p2 : Pos} (ha : PE X a (tE X.K Γ gl W ca)) (hl : PO X lo (tO X.K Γ gl W clo)) (hh : PO X hi (tO X.K Γ gl W chi)) : PE X (.Subscript a (.Slice lo hi none p2) pos) (tE X.K Γ gl W (.slc ca clo chi)) :=
  PE.imp (pe_slice opSlc ha hl hh) fun σ H Q ⟨x, F, δ, R, p⟩ => by
    unfold evalE at p
    refine ⟨x, F, δ, R, p.bind fun r1 δ1 F1 H1 v R1 s1 rv1 p1 => ?_⟩
    obtain ⟨F2, R2, s2, rv2⟩ := R1.settle rv1
    refine ⟨x, F2, δ1, R2, (PostG.base s2 p1).bind fun l δ3 F3 H3 l' R3 s3 el p3 => ?_⟩
    obtain rfl : l' = l := el
    refine ⟨x, F3, δ3, R3, p3.bind fun u δ4 F4 H4 u' R4 s4 eu p4 => ?_⟩
    obtain rfl : u' = u := eu
    obtain ⟨dd, y, _, hd, e, q⟩ := rdTo_of R4 (rv2.stay (δ' := δ4) (H' := H4) (s3.trans s4)) p4
    exact ⟨F4, dd, y, R4.sub, hd, e, fun F' H' w g n => q F' H' w (R4.grw g) g.f (R4.resN n)⟩
/-! ### built-in calls -/
theorem rds_of {K : PySem.W.Frag} {x : Fx} {F H : Hp} {σ : L2.St} {δ : DEnv} (R : Rel K x F σ H δ) : ∀ {vs : List V} {rs : List Rv} {ds : List D}, ResVs K x F H σ δ vs rs -> rs.mapM (rd δ) = some ds -> RdVs K F H vs ds
  | _, _, ds, .nil, h => by
    rw [List.mapM_nil] at h
    cases h
    exact .nil
  | _, _, ds, .cons (rs := rs) h1 h2, h => by
    rename_i v vs r
    rw [List.mapM_cons] at h
    cases e1 : rd δ (settle r) with
    | none => rw [e1] at h; cases h
    | some d1 =>
      rw [e1] at h
      cases e2 : rs.mapM (rd δ) with
      | none => rw [e2] at h; cases h
      | some d2 =>
        rw [e2] at h
        cases h
        exact .cons (R.read h1 e1) (rds_of R h2 e2)
/-- the reading of a built-in's call -/
theorem snd_blt_red {f : Bf} {r : List V -> Hp -> VK -> Prop} (hr : ∀ vs H Q, rVs X.K (bltD f) vs H Q -> r vs H Q) (σ : L2.St) (H : Hp) (Q : VK) (h : tE X.K Γ gl W (.blt f ces) σ H Q) : tCB r (tRs X.K Γ gl W ces) σ H Q := by
  obtain ⟨x, F, δ, R, p⟩ := h
  unfold evalE at p
  refine ⟨x, F, δ, R, p.bind fun rs δ1 F1 H1 vs R1 s1 hrs p1 => ?_⟩
  apply hr
  cases e1 : rs.mapM (rd δ1) with
  | none => simp only [e1] at p1; exact p1.elim
  | some ds =>
    simp only [e1] at p1
    cases e2 : bltD f ds with
    | none => rw [e2] at p1; exact p1.elim
    | some y =>
      rw [e2] at p1
      exact ⟨F1, ds, y, R1.sub, rds_of R1 hrs e1, e2, fun F' H' w g n => p1 F' H' w (R1.grw g) g.f (R1.resN n)⟩
theorem plainStar {pos : Pos} {es : List Expr} {env : Env} (h : es.all noStar = true) : (backTo pos (starEach es env)).any (·.1) = false := by
  induction es with
  | nil => simp only [starEach]; rfl
  | cons e r ih =>
    rw [List.all_cons, Bool.and_eq_true] at h
    rw [noStar_each h.1]
    show (false || (backTo pos (starEach r env)).any (·.1)) = false
    rw [ih h.2]; rfl
def isTy : Bf -> Bool
  | .int => true
  | .list => true
  | .tuple => true
  | .dict => true
  | _ => false
theorem bootB (f : Bf) : isTy f = false -> bootBuiltins (Str.ofString f.nm) = some (.builtin f.nm) := by
  cases f <;> first | (intro h; cases h; done) | (intro _; decide +kernel)
theorem bltCall (f : Bf) (hc : X.calm = true) (hu : X.A.units + 70 < cLine) (h : isTy f = false) : CallR X (.builtin f.nm) (rVs X.K (bltD f)) := by
  cases f with
  | len => exact bltLen
  | abs => exact bltAbs
  | all => exact bltAll hc
  | any => exact bltAny hc
  | sum => exact bltSum hc
  | max => exact bltMax hc
  | min => exact bltMin hc
  | sorted => exact bltSorted hu
  | int => cases h
  | list => cases h
  | tuple => cases h
  | dict => cases h
theorem bltTy (f : Bf) (hc : X.calm = true) (h : isTy f = true) : CallR X (.type f.nm) (rVs X.K (bltD f)) := by
  cases f with
  | int => exact bltInt
  | list => exact bltList hc
  | dict => exact bltDict hc
  | tuple => exact bltTuple
  | _ => cases h
theorem snd_blt {f : Bf} {e : Expr} {p : Pos} (hc : X.calm = true) (hu : X.A.units + 70 < cLine) (hg : Gl X (Str.ofString f.nm)) (hm : X.mg (Str.ofString f.nm) = none) (hs : (e :: es).all noStar = true) (h : PA X (e :: es) (tRs X.K Γ gl W ces)) :
    PE X (.Call (.Name (Str.ofString f.nm) p) (e :: es) [] pos) (tE X.K Γ gl W (.blt f ces)) := by
  have hs' := hs
  rw [List.all_cons, Bool.and_eq_true] at hs'
  cases hf : isTy f with
  | true =>
    exact PE.imp (pe_callTy (bltTy f hc hf) hg hm (by cases f <;> first | (cases hf; done) | decide +kernel) h (by cases f <;> decide +kernel) (by cases f <;> decide +kernel) (noStar_each hs'.1) (plainStar hs'.2)) fun σ H Q z => snd_blt_red (fun _ _ _ z => z) σ H Q z
  | false =>
    exact PE.imp (pe_callB (bltCall f hc hu hf) hg hm (bootB f hf) h (by cases f <;> decide +kernel) (by cases f <;> decide +kernel) (noStar_each hs'.1) (plainStar hs'.2)) fun σ H Q z => snd_blt_red (fun _ _ _ z => z) σ H Q z
theorem snd_isi {T : Tf} {p p2 : Pos} (hg : Gl X "isinstance") (hm : X.mg "isinstance" = none) (hgT : Gl X (Str.ofString T.nm)) (hmT : X.mg (Str.ofString T.nm) = none) (hs : noStar a = true) (ha : PE X a (tE X.K Γ gl W ca)) :
    PE X (.Call (.Name "isinstance" p) [a, .Name (Str.ofString T.nm) p2] [] pos) (tE X.K Γ gl W (.isi ca T)) := by
  have hT : PE X (.Name (Str.ofString T.nm) p2) (tC (.ty T.nm)) := pe_bltn hgT hmT (by cases T <;> decide +kernel) (show RelV (.ty T.nm) (.type T.nm) from rfl) (by cases T <;> decide +kernel) (by cases T <;> decide +kernel)
  refine PE.imp (pe_callB (bltIsi T) hg hm (by decide +kernel) (pa_cons ha (pa_cons hT pa_nil (noStar_each rfl)) (noStar_each hs)) (by decide) (by decide) (noStar_each hs) (plainStar rfl)) fun σ H Q ⟨x, F, δ, R, pp⟩ => ?_
  unfold evalE at pp
  refine ⟨x, F, δ, R, pp.bind fun r1 δ1 F1 H1 v R1 s1 rv1 p1 => ?_⟩
  obtain ⟨dd, y, _, hd, e, q⟩ := rdTo_of R1 rv1 p1
  exact ⟨v, rfl, F1, dd, y, R1.sub, hd, e, fun F' H' w g n => q F' H' w (R1.grw g) g.f (R1.resN n)⟩
end
end DE

/-! DE8: the call of a def over data. -/
namespace DE
open PySem PySem.Spec PyProof.Rows L2

def inpAt (vs : List V) (cs : List Cell) (a : Addr) : Prop := ∃ (j : Nat) (d : D), vs[j]? = some (.ref a) ∧ cs[j]? = some (.inp d)
inductive ArgC (K : PySem.W.Frag) (F H : Hp) : List V -> List Cell -> Prop
  | nil : ArgC K F H [] []
  | pure {v : V} {d : D} {vs : List V} {cs : List Cell} : Dat K F v d -> ArgC K F H vs cs -> ArgC K F H (v :: vs) (.pure d :: cs)
  | inp {a : Addr} {d : D} {vs : List V} {cs : List Cell} : OwnAt K F H a d -> F a = none -> ArgC K F H vs cs -> ArgC K F H (.ref a :: vs) (.inp d :: cs)
def Apart (vs : List V) (cs : List Cell) : Prop := ∀ (i j : Nat) (a : Addr) (d e : D), i ≠ j -> vs[i]? = some (.ref a) -> cs[i]? = some (.inp d) -> vs[j]? = some (.ref a) -> cs[j]? = some (.inp e) -> False
structure CGrw (K : PySem.W.Frag) (F H : Hp) (vs : List V) (cs outs : List Cell) (F' H' : Hp) : Prop where
  f : Same F F'
  s : Same F' H'
  h : ∀ a o, H a = some o -> ¬ inpAt vs cs a -> H' a = some o
  n : ∀ a, F a = none -> F' a ≠ none -> H a = none
  o : ∀ (j : Nat) (a : Addr) (d : D), vs[j]? = some (.ref a) -> cs[j]? = some (.inp d) -> F' a = none ∧ ∃ d', outs[j]? = some (.inp d') ∧ OwnAt K F' H' a d'
def ResC (K : PySem.W.Frag) (H F' H' : Hp) (v : V) : Cell -> Prop
  | .pure d => Dat K F' v d
  | .own d => ∃ a, v = .ref a ∧ OwnAt K F' H' a d ∧ F' a = none ∧ H a = none
  | _ => False
/-- what a def promises, over data -/
def spD (K : PySem.W.Frag) (Γ : Calls) (f : Str) : Sp := fun vs H Q E => ∃ F cs, Same F H ∧ ArgC K F H vs cs ∧ Apart vs cs ∧ match Γ f cs with
  | .ret c outs => ∀ F' H' v, CGrw K F H vs cs outs F' H' -> ResC K H F' H' v c -> Q v H'
  | .exc e outs => ∀ F' H' cls d, CGrw K F H vs cs outs F' H' -> ExR K F' H' e cls d -> E cls d H'
  | .no => False

theorem ArgC.length {K : PySem.W.Frag} {F H : Hp} : ∀ {vs : List V} {cs : List Cell}, ArgC K F H vs cs -> vs.length = cs.length
  | _, _, .nil => rfl
  | _, _, .pure _ t => by rw [List.length_cons, List.length_cons, ArgC.length t]
  | _, _, .inp _ _ t => by rw [List.length_cons, List.length_cons, ArgC.length t]

/-! ### behind the call -/
theorem putBack_length : ∀ (as : List Ar) (outs : List Cell) (δ : DEnv), (putBack as outs δ).length = δ.length
  | [], outs, δ => by simp only [putBack]
  | .d _ :: as, [], δ => by simp only [putBack]
  | .r _ :: as, [], δ => by simp only [putBack]
  | .d _ :: as, _ :: outs, δ => by simp only [putBack]; exact putBack_length as outs δ
  | .r i :: as, .inp d :: outs, δ => by
    simp only [putBack]
    rw [putBack_length as outs]
    cases δ[i]? with
    | none => rfl
    | some c => exact List.length_set
  | .r i :: as, .emp :: outs, δ => by simp only [putBack]; exact putBack_length as outs δ
  | .r i :: as, .pure _ :: outs, δ => by simp only [putBack]; exact putBack_length as outs δ
  | .r i :: as, .own _ :: outs, δ => by simp only [putBack]; exact putBack_length as outs δ
theorem mem_refs : ∀ {as : List Ar} {j i : Nat}, as[j]? = some (.r i) -> i ∈ refsOf as
  | [], _, _, h => by simp at h
  | .d _ :: as, 0, _, h => by simp at h
  | .r k :: as, 0, i, h => by simp at h; subst h; simp [refsOf]
  | .d _ :: as, j + 1, i, h => by simp only [refsOf]; exact mem_refs (j := j) (by simpa using h)
  | .r k :: as, j + 1, i, h => by simp only [refsOf]; exact List.mem_cons_of_mem _ (mem_refs (j := j) (by simpa using h))
theorem putBack_get : ∀ (as : List Ar) (outs : List Cell) (δ : DEnv) (i : Nat) (c' : Cell), (refsOf as).Nodup -> (putBack as outs δ)[i]? = some c' ->
    ∃ c, δ[i]? = some c ∧ ((c' = c ∧ ∀ (j : Nat) (d : D), as[j]? = some (.r i) -> outs[j]? ≠ some (.inp d)) ∨ ∃ (j : Nat) (d : D), as[j]? = some (.r i) ∧ outs[j]? = some (.inp d) ∧ c' = backTo1 c d)
  | [], outs, δ, i, c', _, h => by
    simp only [putBack] at h
    exact ⟨c', h, .inl ⟨rfl, fun j d z => by simp at z⟩⟩
  | a :: as, [], δ, i, c', _, h => by
    have e : putBack (a :: as) [] δ = δ := by cases a <;> simp only [putBack]
    rw [e] at h
    exact ⟨c', h, .inl ⟨rfl, fun j d _ => by simp⟩⟩
  | .d a :: as, o :: outs, δ, i, c', nd, h => by
    have e : putBack (.d a :: as) (o :: outs) δ = putBack as outs δ := by simp only [putBack]
    rw [e] at h
    obtain ⟨c, h1, h2⟩ := putBack_get as outs δ i c' nd h
    refine ⟨c, h1, ?_⟩
    rcases h2 with ⟨h2, h3⟩ | ⟨j, d, h2, h3, h4⟩
    · refine .inl ⟨h2, fun j d z => ?_⟩
      cases j with
      | zero => simp at z
      | succ j => simpa using h3 j d (by simpa using z)
    · exact .inr ⟨j + 1, d, by simpa using h2, by simpa using h3, h4⟩
  | .r k :: as, o :: outs, δ, i, c', nd, h => by
    have nd2 : k ∉ refsOf as ∧ (refsOf as).Nodup := List.nodup_cons.mp (by simpa [refsOf] using nd)
    by_cases ho : ∃ d, o = .inp d
    · obtain ⟨d, rfl⟩ := ho
      simp only [putBack] at h
      obtain ⟨c1, h1, h2⟩ := putBack_get as outs _ i c' nd2.2 h
      by_cases hi : i = k
      · subst hi
        have no : ∀ j : Nat, as[j]? ≠ some (.r i) := fun j z => nd2.1 (mem_refs z)
        cases q : δ[i]? with
        | none => rw [q] at h1; simp only at h1; rw [q] at h1; cases h1
        | some c =>
          rw [q] at h1
          simp only at h1
          have hlt : i < δ.length := (List.getElem?_eq_some_iff.mp q).1
          rw [List.getElem?_set_self hlt] at h1
          cases h1
          refine ⟨c, rfl, ?_⟩
          rcases h2 with ⟨h2, _⟩ | ⟨j, d', h2, _⟩
          · exact .inr ⟨0, d, rfl, rfl, h2⟩
          · exact absurd h2 (no j)
      · have h1' : δ[i]? = some c1 := by
          cases q : δ[k]? with
          | none => rw [q] at h1; exact h1
          | some c =>
            rw [q] at h1
            simp only at h1
            rw [List.getElem?_set_ne (fun z => hi z.symm)] at h1
            exact h1
        refine ⟨c1, h1', ?_⟩
        rcases h2 with ⟨h2, h3⟩ | ⟨j, d', h2, h3, h4⟩
        · refine .inl ⟨h2, fun j d' z => ?_⟩
          cases j with
          | zero => simp at z; exact absurd z.symm hi
          | succ j => simpa using h3 j d' (by simpa using z)
        · exact .inr ⟨j + 1, d', by simpa using h2, by simpa using h3, h4⟩
    · have e : putBack (.r k :: as) (o :: outs) δ = putBack as outs δ := by
        cases o with
        | inp d => exact absurd ⟨d, rfl⟩ ho
        | _ => simp only [putBack]
      rw [e] at h
      obtain ⟨c, h1, h2⟩ := putBack_get as outs δ i c' nd2.2 h
      refine ⟨c, h1, ?_⟩
      rcases h2 with ⟨h2, h3⟩ | ⟨j, d, h2, h3, h4⟩
      · refine .inl ⟨h2, fun j d z => ?_⟩
        cases j with
        | zero => intro w; simp at w; exact ho ⟨d, w⟩
        | succ j => simpa using h3 j d (by simpa using z)
      · exact .inr ⟨j + 1, d, by simpa using h2, by simpa using h3, h4⟩
theorem backTo1_own (c : Cell) (d : D) : (backTo1 c d).isOwn = c.isOwn := by cases c <;> rfl
theorem putBack_own {as : List Ar} {outs : List Cell} {δ : DEnv} {i : Nat} {c' : Cell} (nd : (refsOf as).Nodup) (h : (putBack as outs δ)[i]? = some c') : ∃ c, δ[i]? = some c ∧ c.isOwn = c'.isOwn := by
  obtain ⟨c, h1, h2⟩ := putBack_get as outs δ i c' nd h
  rcases h2 with ⟨rfl, _⟩ | ⟨j, d, _, _, rfl⟩
  · exact ⟨_, h1, rfl⟩
  · exact ⟨c, h1, (backTo1_own c d).symm⟩

section
variable {K : PySem.W.Frag} {x : Fx} {F H : Hp} {σ : L2.St} {δ : DEnv}
theorem arCells_get : ∀ {as : List Ar} {cs : List Cell} {j : Nat} {a : Ar}, arCells δ as = some cs -> as[j]? = some a -> ∃ c, cs[j]? = some c ∧ arCell δ a = some c
  | [], _, _, _, _, h => by simp at h
  | b :: r, cs, j, a, e, h => by
    simp only [arCells] at e
    cases e1 : arCell δ b with
    | none => simp only [e1] at e; cases e
    | some c =>
      cases e2 : arCells δ r with
      | none => simp only [e1, e2] at e; cases e
      | some cs' =>
        simp only [e1, e2] at e
        cases e
        cases j with
        | zero => simp at h; subst h; exact ⟨c, rfl, e1⟩
        | succ j =>
          obtain ⟨c', h1, h2⟩ := arCells_get (j := j) e2 (by simpa using h)
          exact ⟨c', by simpa using h1, h2⟩
theorem arCells_back : ∀ {as : List Ar} {cs : List Cell} {j : Nat} {c : Cell}, arCells δ as = some cs -> cs[j]? = some c -> ∃ a, as[j]? = some a ∧ arCell δ a = some c
  | [], _, _, _, e, h => by cases e; simp at h
  | b :: r, cs, j, c', e, h => by
    simp only [arCells] at e
    cases e1 : arCell δ b with
    | none => simp only [e1] at e; cases e
    | some c =>
      cases e2 : arCells δ r with
      | none => simp only [e1, e2] at e; cases e
      | some cs' =>
        simp only [e1, e2] at e
        cases e
        cases j with
        | zero => simp at h; subst h; exact ⟨b, rfl, e1⟩
        | succ j =>
          obtain ⟨a', h1, h2⟩ := arCells_back (j := j) e2 (by simpa using h)
          exact ⟨a', by simpa using h1, h2⟩
/-- a cell handed on as changeable: its slot owns it -/
theorem arCell_inp {a : Ar} {d : D} (h : arCell δ a = some (.inp d)) : ∃ i c, a = .r i ∧ δ[i]? = some c ∧ c.isOwn = true ∧ (c = .own d ∨ c = .inp d) := by
  cases a with
  | d _ => cases h
  | r i =>
    simp only [arCell] at h
    split at h <;> cases h
    · rename_i q; exact ⟨i, _, rfl, q, rfl, .inl rfl⟩
    · rename_i q; exact ⟨i, _, rfl, q, rfl, .inr rfl⟩
theorem ArR.get : ∀ {vs : List V} {as : List Ar} {j i : Nat}, ArR K F σ vs as -> as[j]? = some (.r i) -> ∃ v, vs[j]? = some v ∧ σ[i]? = some (some v)
  | _, _, _, _, .nil, h => by simp at h
  | _, _, 0, _, .d _ _, h => by simp at h
  | _, _, 0, _, .r h1 _, h => by simp at h; subst h; exact ⟨_, rfl, h1⟩
  | _, _, j + 1, _, .d _ t, h => by
    obtain ⟨v, h1, h2⟩ := ArR.get (j := j) t (by simpa using h)
    exact ⟨v, by simpa using h1, h2⟩
  | _, _, j + 1, _, .r _ t, h => by
    obtain ⟨v, h1, h2⟩ := ArR.get (j := j) t (by simpa using h)
    exact ⟨v, by simpa using h1, h2⟩
theorem ArR.args (R : Rel K x F σ H δ) : ∀ {vs : List V} {as : List Ar} {cs : List Cell}, ArR K F σ vs as -> arCells δ as = some cs -> ArgC K F H vs cs
  | _, _, cs, .nil, e => by cases e; exact .nil
  | _, _, cs, .d (as := as) h t, e => by
    simp only [arCells, arCell] at e
    cases e2 : arCells δ as with
    | none => simp only [e2] at e; cases e
    | some cs' => simp only [e2] at e; cases e; exact .pure h (ArR.args R t e2)
  | _, _, cs, .r (i := i) (as := as) h t, e => by
    simp only [arCells] at e
    cases e1 : arCell δ (.r i) with
    | none => simp only [e1] at e; cases e
    | some c =>
      cases e2 : arCells δ as with
      | none => simp only [e1, e2] at e; cases e
      | some cs' =>
        simp only [e1, e2] at e
        cases e
        simp only [arCell] at e1
        cases q : δ[i]? with
        | none => simp only [q] at e1; cases e1
        | some c0 =>
          have hs := R.slot i c0 q
          cases c0 with
          | emp => simp only [q] at e1; cases e1
          | pure d =>
            simp only [q] at e1; cases e1
            obtain ⟨w, h1, h2⟩ := hs
            rw [h] at h1; cases h1
            exact .pure h2 (ArR.args R t e2)
          | own d =>
            simp only [q] at e1; cases e1
            obtain ⟨w, h1, h2⟩ := hs
            rw [h] at h1; cases h1
            exact .inp h2 (R.own i _ w q rfl h).1 (ArR.args R t e2)
          | inp d =>
            simp only [q] at e1; cases e1
            obtain ⟨w, h1, h2⟩ := hs
            rw [h] at h1; cases h1
            exact .inp h2 (R.own i _ w q rfl h).1 (ArR.args R t e2)
/-- who owns an address that is handed on -/
theorem inpAt_slot (hr : ArR K F σ vs as) {cs : List Cell} (e : arCells δ as = some cs) {j : Nat} {a : Addr} {d : D} (h1 : vs[j]? = some (.ref a)) (h2 : cs[j]? = some (.inp d)) :
    ∃ i c, as[j]? = some (.r i) ∧ δ[i]? = some c ∧ c.isOwn = true ∧ σ[i]? = some (some (V.ref a)) ∧ (c = .own d ∨ c = .inp d) := by
  obtain ⟨ar, h3, h4⟩ := arCells_back e h2
  obtain ⟨i, c, rfl, h5, h6, h7⟩ := arCell_inp h4
  obtain ⟨v, h8, h9⟩ := hr.get h3
  rw [h1] at h8; cases h8
  exact ⟨i, c, h3, h5, h6, h9, h7⟩
theorem refs_inj : ∀ {as : List Ar} {i j k : Nat}, (refsOf as).Nodup -> as[i]? = some (.r k) -> as[j]? = some (.r k) -> i = j
  | [], _, _, _, _, h, _ => by simp at h
  | .d _ :: as, 0, _, _, _, h, _ => by simp at h
  | .d _ :: as, _ + 1, 0, _, _, _, h => by simp at h
  | .d _ :: as, i + 1, j + 1, k, nd, h1, h2 => by rw [refs_inj (i := i) (j := j) (k := k) (by simpa [refsOf] using nd) (by simpa using h1) (by simpa using h2)]
  | .r m :: as, 0, 0, _, _, _, _ => rfl
  | .r m :: as, 0, j + 1, k, nd, h1, h2 => by
    simp at h1; subst h1
    exact absurd (mem_refs (j := j) (by simpa using h2)) (List.nodup_cons.mp (by simpa [refsOf] using nd)).1
  | .r m :: as, i + 1, 0, k, nd, h1, h2 => by
    simp at h2; subst h2
    exact absurd (mem_refs (j := i) (by simpa using h1)) (List.nodup_cons.mp (by simpa [refsOf] using nd)).1
  | .r m :: as, i + 1, j + 1, k, nd, h1, h2 => by rw [refs_inj (i := i) (j := j) (k := k) (List.nodup_cons.mp (by simpa [refsOf] using nd)).2 (by simpa using h1) (by simpa using h2)]
theorem ArR.apart (R : Rel K x F σ H δ) {vs : List V} {as : List Ar} {cs : List Cell} (hr : ArR K F σ vs as) (e : arCells δ as = some cs) (nd : (refsOf as).Nodup) : Apart vs cs := fun i j a d e' nij h1 h2 h3 h4 => by
  obtain ⟨k, c, g1, g2, g3, g4, _⟩ := inpAt_slot hr e h1 h2
  obtain ⟨l, c', f1, f2, f3, f4, _⟩ := inpAt_slot hr e h3 h4
  by_cases q : k = l
  · subst q; exact nij (refs_inj nd g1 f1)
  · exact R.sep k l c c' a q g2 g3 f2 f3 g4 f4
theorem Rel.called (R : Rel K x F σ H δ) {vs : List V} {as : List Ar} {cs outs : List Cell} (hr : ArR K F σ vs as) (e : arCells δ as = some cs) (nd : (refsOf as).Nodup) {F' H' : Hp} (g : CGrw K F H vs cs outs F' H') :
    Rel K x F' σ H' (putBack as outs δ) := by
  have nG : ∀ a, inpAt vs cs a -> x.G a = none ∧ F a = none ∧ F' a = none := fun a ⟨j, d, h1, h2⟩ => by
    obtain ⟨k, c, g1, g2, g3, g4, _⟩ := inpAt_slot hr e h1 h2
    have z := R.own k c a g2 g3 g4
    exact ⟨z.2, z.1, (g.o j a d h1 h2).1⟩
  have hG : ∀ a o, x.G a = some o -> H' a = some o := fun a o h => g.h a o (R.frm _ _ h) fun z => by
    rw [(nG a z).1] at h; cases h
  -- a slot's own address that is not handed on
  have hF : ∀ a u, H a = some u -> F a = none -> F' a = none := fun a u h n => by
    cases w : F' a with
    | none => rfl
    | some v =>
      have := g.n a n (by rw [w]; exact fun z => by cases z)
      rw [h] at this; cases this
  have ownF : ∀ (i : Nat) (c : Cell) (a : Addr), δ[i]? = some c -> c.isOwn = true -> σ[i]? = some (some (V.ref a)) -> F' a = none ∧ x.G a = none := fun i c a h1 h2 h3 => by
    obtain ⟨z1, z2⟩ := R.own i c a h1 h2 h3
    obtain ⟨b, e1, u, e2⟩ := (R.slot i c h1).ownA h2
    rw [h3] at e1; cases e1
    exact ⟨hF a u e2 z1, z2⟩
  refine ⟨by rw [putBack_length]; exact R.len, g.s, hG, R.f0.trans g.f, fun a q => ?_, fun i c' h => ?_, fun i c' a h o z => ?_, fun i j c' e' a nij h1 o1 h2 o2 z => ?_, fun p hp => ?_, fun i d h => ?_⟩
  · by_cases z : F a = none
    · exact .inr (R.nG (g.n a z q))
    · exact R.ext a z
  · obtain ⟨c, h1, h2⟩ := putBack_get as outs δ i c' nd h
    have hs := R.slot i c h1
    have keep : c' = c -> (c.isOwn = true -> ∀ a, σ[i]? = some (some (V.ref a)) -> ¬ inpAt vs cs a) -> SlotR K F' H' σ[i]? c' := fun ec no => by
      subst ec
      exact hs.mono g.f fun a o oc z w => g.h a o w (no oc a z)
    rcases h2 with ⟨ec, h3⟩ | ⟨j, d, h3, h4, ec⟩
    · refine keep ec fun oc a z ⟨j, d, w1, w2⟩ => ?_
      obtain ⟨k, c2, g1, g2, g3, g4, _⟩ := inpAt_slot hr e w1 w2
      obtain ⟨_, d', w3, _⟩ := g.o j a d w1 w2
      by_cases q : i = k
      · subst q; exact h3 j d' g1 w3
      · exact R.sep i k c c2 a q h1 oc g2 g3 z g4
    · obtain ⟨v, w1, w2⟩ := hr.get h3
      obtain ⟨cj, w3, w4⟩ := arCells_get e h3
      have own : ∀ a d0, v = .ref a -> arCell δ (.r i) = some (.inp d0) -> OwnAt K F' H' a d := fun a d0 ev ea => by
        subst ev
        rw [ea] at w4; cases w4
        obtain ⟨_, d', u1, u2⟩ := g.o j a d0 w1 w3
        rw [h4] at u1; cases u1
        exact u2
      cases c with
      | emp => exact keep ec fun z => by cases z
      | pure d0 => exact keep ec fun z => by cases z
      | own d0 =>
        subst ec
        obtain ⟨a, u1, u2⟩ := hs
        rw [w2] at u1; cases u1
        exact ⟨a, w2, own a d0 rfl (by simp only [arCell, h1])⟩
      | inp d0 =>
        subst ec
        obtain ⟨a, u1, u2⟩ := hs
        rw [w2] at u1; cases u1
        exact ⟨a, w2, own a d0 rfl (by simp only [arCell, h1])⟩
  · obtain ⟨c, h1, h2⟩ := putBack_own nd h
    exact ownF i c a h1 (h2.trans o) z
  · obtain ⟨c1, g1, g2⟩ := putBack_own nd h1
    obtain ⟨c2, g3, g4⟩ := putBack_own nd h2
    exact R.sep i j c1 c2 a nij g1 (g2.trans o1) g3 (g4.trans o2) z
  · obtain ⟨h1, d, h2⟩ := R.par p hp
    refine ⟨h1, ?_⟩
    have hlt : p.1 < (putBack as outs δ).length := by rw [putBack_length]; exact (List.getElem?_eq_some_iff.mp h2).1
    obtain ⟨c, h3, h4⟩ := putBack_get as outs δ p.1 _ nd (List.getElem?_eq_getElem hlt)
    rw [h2] at h3; cases h3
    rcases h4 with ⟨h4, _⟩ | ⟨j, d', _, _, h4⟩
    · exact ⟨d, by rw [List.getElem?_eq_getElem hlt, h4]⟩
    · exact ⟨d', by rw [List.getElem?_eq_getElem hlt, h4]; rfl⟩
  · obtain ⟨c, h3, h4⟩ := putBack_get as outs δ i _ nd h
    rcases h4 with ⟨h4, _⟩ | ⟨j, d', _, _, h4⟩
    · subst h4; exact R.inp i d h3
    · cases c with
      | inp d0 => exact R.inp i d0 h3
      | _ => cases h4
end
end DE

/-! DE9: calls and methods as expressions. -/
namespace DE
open PySem PySem.Spec PyProof.Rows L2

/-- a def stands at a name, and keeps what Γ tells of it -/
def CallOk (Γ : Calls) (X : Cx) (f : Str) : Prop := ∃ k a fd ps, (Room k X.A ∧ Room k X.A.in1.in1) ∧ X.mg f = some (.ref a) ∧ PySem.W.keepIn X.K (.ref a) = true ∧ Binds X.K fd ps [] ∧
  FnOk X.prog X.w X.K X.mg X.base (L2.CX X.prog X.w) k a fd ps (spD X.K Γ f)
section
variable {X : Cx} {Γ : Calls} {gl : Str -> Option D} {W : WX} {a b d : Expr} {ca cb cd : CE} {pos : Pos} {es : List Expr} {ces : CEs}
theorem snd_as_nil : PA X [] (tAs X.K Γ gl W .nil) :=
  PA.imp pa_nil fun σ H Q ⟨x, F, δ, R, p⟩ => by
    unfold evalAs at p
    exact p F H [] R (Same.refl _) .nil
theorem ArR.mono {K : PySem.W.Frag} {F F' : Hp} {σ : L2.St} (s : Same F F') : ∀ {vs : List V} {as : List Ar}, ArR K F σ vs as -> ArR K F' σ vs as
  | _, _, .nil => .nil
  | _, _, .d h t => .d (h.mono s) (ArR.mono s t)
  | _, _, .r h t => .r h (ArR.mono s t)
theorem snd_as_val {e : Expr} {c : CE} {cas : CAs} (hs : noStar e = true) (he : PE X e (tE X.K Γ gl W c)) (hr : PA X es (tAs X.K Γ gl W cas)) : PA X (e :: es) (tAs X.K Γ gl W (.val c cas)) :=
  PA.imp (pa_cons he hr (noStar_each hs)) fun σ H Q ⟨x, F, δ, R, p⟩ => by
    unfold evalAs at p
    refine ⟨x, F, δ, R, p.bind fun r1 δ1 F1 H1 v R1 s1 rv1 p1 => ?_⟩
    cases e1 : esc r1 δ1 with
    | no => rw [e1] at p1; exact p1.elim
    | ex e δ2 => exact absurd e1 esc_nex
    | ok dt δ2 =>
      rw [e1] at p1
      simp only [Out.bind] at p1
      obtain ⟨F2, R2, s2, hd⟩ := R1.esc rv1 e1
      refine ⟨x, F2, δ2, R2, (PostG.base s2 p1).bind fun ds δ3 F3 H3 vs R3 s3 hds p3 => ?_⟩
      exact p3 F3 H3 (v :: vs) R3 (Same.refl _) (.d (hd.mono s3) hds)
theorem snd_as_ref {i : Nat} {y : Str} {p : Pos} {cas : CAs} (hN : X.N[i]? = some y) (hv : Vis X.env.scope y) (h1 : (y == ("__debug__" : Str)) = false) (h2 : (y == ("__classdict__" : Str)) = false) (hr : PA X es (tAs X.K Γ gl W cas)) : PA X (.Name y p :: es) (tAs X.K Γ gl W (.ref i cas)) := by
  refine ⟨fun pos pins s σ H Q I h => ?_⟩
  obtain ⟨x, F, δ, R, p⟩ := h
  unfold evalAs at p
  -- the slot's value
  have hv2 : ∃ v, σ[i]? = some (some v) := by
    cases e : δ[i]? with
    | none => simp only [e] at p; exact p.elim
    | some c =>
      have hs := R.slot i c e
      cases c with
      | emp => simp only [e] at p; exact p.elim
      | pure d => obtain ⟨v, h, _⟩ := hs; exact ⟨_, h⟩
      | own d => obtain ⟨v, h, _⟩ := hs; exact ⟨_, h⟩
      | inp d => obtain ⟨v, h, _⟩ := hs; exact ⟨_, h⟩
  obtain ⟨v, hv2⟩ := hv2
  have p2 : PostG X.K x σ W (fun F' _ _ vs as => ArR X.K F' σ vs as) ((evalAs Γ gl cas δ).bind fun ds δ3 => .ok (.r i :: ds) δ3) F Q := by
    cases e : δ[i]? with
    | none => simp only [e] at p; exact p.elim
    | some c =>
      cases c with
      | emp => simp only [e] at p; exact p.elim
      | _ => simp only [e] at p; exact p
  refine (pa_cons (pe_var hN hv h1 h2) hr (noStar_each rfl)).run pos pins s σ H Q I ⟨v, hv2, x, F, δ, R, p2.bind fun ds δ3 F3 H3 vs R3 s3 hds p3 => ?_⟩
  exact p3 F3 H3 (v :: vs) R3 (Same.refl _) (.r hv2 hds)
/-- what the promise asks of a call, out of the data -/
theorem call_sp {K : PySem.W.Frag} {f : Str} {x : Fx} {F H : Hp} {σ : L2.St} {δ : DEnv} {vs : List V} {ars : List Ar} {Q : VK} (R : Rel K x F σ H δ) (hr : ArR K F σ vs ars)
    (p : PostG K x σ W (RV K x σ) (callA Γ f ars δ) F Q) : spD K Γ f vs H Q (WE W σ) := by
  unfold callA at p
  split at p
  · rename_i nd
    cases e : arCells δ ars with
    | none => simp only [e] at p; exact p.elim
    | some cs =>
      simp only [e] at p
      refine ⟨F, cs, R.sub, hr.args R e, hr.apart R e nd, ?_⟩
      cases q : Γ f cs with
      | no => simp only [q] at p; exact p.elim
      | exc ee outs =>
        simp only [q] at p
        exact fun F' H' cls d g r => p F' H' cls d (R.called hr e nd g) g.f r
      | ret c outs =>
        cases c with
        | emp => simp only [q] at p; exact p.elim
        | inp _ => simp only [q] at p; exact p.elim
        | pure d =>
          simp only [q] at p
          exact fun F' H' v g r => p F' H' v (R.called hr e nd g) g.f r
        | own d =>
          simp only [q] at p
          refine fun F' H' v g r => p F' H' v (R.called hr e nd g) g.f ?_
          obtain ⟨a, rfl, o, nF, nH⟩ := r
          refine ⟨a, rfl, o, nF, R.nG nH, fun i c h oc z => ?_⟩
          obtain ⟨c0, h1, h2⟩ := putBack_own nd h
          obtain ⟨b, e1, w, e2⟩ := (R.slot i c0 h1).ownA (h2.trans oc)
          rw [z] at e1; cases e1
          rw [nH] at e2; cases e2
  · exact p.elim
theorem snd_call0 {f : Str} {p : Pos} (tk : Takes X W) (C : CallOk Γ X f) (hg : Gl X f) (hd : (f == ("__debug__" : Str)) = false) : PE X (.Call (.Name f p) [] [] pos) (tE X.K Γ gl W (.call f .nil)) := by
  obtain ⟨k, a, fd, ps, ⟨rm, _⟩, hm, kp, hb, FO⟩ := C
  refine ⟨fun pins s σ H Q I h => ?_⟩
  obtain ⟨x, F, δ, R, pp⟩ := h
  unfold evalE at pp
  unfold evalAs at pp
  simp only [Out.bind] at pp
  refine wpAny_Call_Name_kw (ld_glob I hg hm (PySem.W.callWith_K0 I.kIn kp ?_) hd)
  exact run_fnS (us := []) (vs := []) FO rm hb (passAt tk σ) I .nil (call_sp R .nil pp)
theorem snd_call {f : Str} {p : Pos} {cas : CAs} {e : Expr} (tk : Takes X W) (C : CallOk Γ X f) (hg : Gl X f) (hd : (f == ("__debug__" : Str)) = false) (hs : (e :: es).all noStar = true) (ha : PA X (e :: es) (tAs X.K Γ gl W cas)) :
    PE X (.Call (.Name f p) (e :: es) [] pos) (tE X.K Γ gl W (.call f cas)) := by
  obtain ⟨k, a, fd, ps, ⟨rm, _⟩, hm, kp, hb, FO⟩ := C
  have hs' := hs
  rw [List.all_cons, Bool.and_eq_true] at hs'
  refine PE.imp (pe_callS FO rm hg hm kp hb (fun σ => passAt tk σ) ha hd (noStar_each hs'.1) (plainStar hs'.2)) fun σ H Q ⟨x, F, δ, R, pp⟩ => ?_
  unfold evalE at pp
  exact ⟨x, F, δ, R, pp.bind fun ars δ1 F1 H1 vs R1 s1 hr p1 => call_sp R1 hr p1⟩

/-! ### an own object changed -/
theorem Rel.mut {K : PySem.W.Frag} {x : Fx} {F H : Hp} {σ : L2.St} {δ : DEnv} (R : Rel K x F σ H δ) {i : Nat} {c : Cell} {a : Addr} {o : HO} {d' : D} (q : δ[i]? = some c) (oc : c.isOwn = true) (hs : σ[i]? = some (some (V.ref a)))
    (ho : OwnAt K F (upd H a o) a d') : Rel K x F σ (upd H a o) (δ.set i (backTo1 c d')) := by
  obtain ⟨nF, nG⟩ := R.own i c a q oc hs
  have hi : i < δ.length := (List.getElem?_eq_some_iff.mp q).1
  refine ⟨by rw [List.length_set]; exact R.len, same_updR R.sub nF, same_updR R.frm nG, R.f0, R.ext, fun j e z => ?_, fun j e b z o2 w => ?_, fun j k e e2 b njk z1 o1 z2 o2 w => ?_, fun p hp => ?_, fun j d z => ?_⟩
  · rcases set_get z with ⟨rfl, rfl, _⟩ | ⟨nj, z⟩
    · cases c with
      | emp => cases oc
      | pure _ => cases oc
      | own _ => exact ⟨a, hs, ho⟩
      | inp _ => exact ⟨a, hs, ho⟩
    · refine (R.slot j e z).mono (Same.refl _) fun b u oe zb w => ?_
      rw [upd_ne]
      · exact w
      · rintro rfl; exact R.sep j i e c b nj z oe q oc zb hs
  · rcases set_get z with ⟨rfl, rfl, _⟩ | ⟨nj, z⟩
    · rw [hs] at w; cases w; exact ⟨nF, nG⟩
    · exact R.own j e b z o2 w
  · rcases set_get z1 with ⟨rfl, rfl, _⟩ | ⟨nj, y1⟩
    · rcases set_get z2 with ⟨rfl, _, _⟩ | ⟨nk, y2⟩
      · exact absurd rfl njk
      · exact R.sep _ k c e2 b njk q oc y2 o2 w
    · rcases set_get z2 with ⟨rfl, rfl, _⟩ | ⟨nk, y2⟩
      · exact R.sep j _ e c b njk y1 o1 q oc w
      · exact R.sep j k e e2 b njk y1 o1 y2 o2 w
  · obtain ⟨h1, d, h2⟩ := R.par p hp
    refine ⟨h1, ?_⟩
    by_cases z : p.1 = i
    · rw [z] at h2 ⊢
      rw [q] at h2; cases h2
      exact ⟨d', by rw [List.getElem?_set_self hi]; rfl⟩
    · exact ⟨d, by rw [List.getElem?_set_ne (Ne.symm z)]; exact h2⟩
  · rcases set_get z with ⟨rfl, h, _⟩ | ⟨nj, z⟩
    · cases c with
      | inp d0 => exact R.inp _ d0 q
      | _ => cases h
    · exact R.inp j d z
end
end DE

/-! DE10: methods. -/
namespace DE
open PySem PySem.Spec PyProof.Rows L2
def Mf.ty : Mf -> String
  | .append => "list" | .reverse => "list" | .get => "dict" | .isupper => "str" | .count => "list"
def Mf.id : Mf -> String
  | .append => "list.append" | .reverse => "list.reverse" | .get => "dict.get" | .isupper => "str.isupper" | .count => "list.count"
/-- a method's reading over data -/
def rMth (K : PySem.W.Frag) (m : Mf) : V -> List V -> Hp -> VK -> Prop := fun v vs H Q => ∃ F d ds, Same F H ∧ DatL K F vs ds ∧
  ((∃ r, RdV K F H v d ∧ mthD m d ds = some (r, none) ∧ ∀ F' H' u, Grw F H F' H' -> ResN K H F' H' u r -> Q u H') ∨
   (∃ a r d', v = .ref a ∧ F a = none ∧ OwnAt K F H a d ∧ mthD m d ds = some (.pure r, some d') ∧ ∀ o u, OwnAt K F (upd H a o) a d' -> Dat K F u r -> Q u (upd H a o)))
section
variable {X : Cx} {Γ : Calls} {gl : Str -> Option D} {W : WX} {a b d : Expr} {ca cb cd : CE} {pos : Pos} {es : List Expr} {ces : CEs}
theorem getRun {v : V} {vs : List V} {vv : Value} {us : List Value} {pins : List (Addr × Obj)} {σ : L2.St} {H : Hp} {s : Shared} {Q : VK} {F : Hp} {kvs : List (D × D)} {ds : List D} {r : Rv} {o : Option D} (hu : X.A.units + 1 < cLine) (I : Inv X pins σ H s) (rv : RelV v vv) (rs : Vals vs us) (sF : Same F H) (hds : DatL X.K F vs ds) (hd : RdV X.K F H v (.dict kvs))
    (e : mthD .get (.dict kvs) ds = some (r, o)) (q : ∀ F' H' u, Grw F H F' H' -> ResN X.K H F' H' u r -> Q u H') : wpAny (model X.prog X.w) X.A (call (.builtin "dict.get") (vv :: us)) (EP X pins σ Q) X.xe s := by
  have hx : isX (.dict kvs) = false := by
    match ds, e with
    | [], e => simp [mthD] at e
    | [d], e => exact (isX_no (show (if isX (.dict kvs) = true then none else (keyD d).map fun k => (Rv.pure ((getKV kvs k).getD .none), none)) = some (r, o) from e)).1
    | [d, x], e => exact (isX_no (show (if isX (.dict kvs) = true then none else (keyD d).map fun k => (Rv.pure ((getKV kvs k).getD x), none)) = some (r, o) from e)).1
    | _ :: _ :: _ :: _, e => simp [mthD] at e
  obtain ⟨a, ks, rfl, h1, t1⟩ := hd.dict sF hx
  obtain rfl : vv = Value.ref a := rv
  match ds, hds, e with
  | [d], .cons hd1 .nil, e =>
    simp only [mthD, hx, Bool.false_eq_true, if_false] at e
    cases ek : keyD d with
    | none => rw [ek] at e; cases e
    | some k =>
      rw [ek] at e
      cases e
      cases rs with
      | cons rk rs =>
        cases rs
        obtain rfl := RdV.key (K := X.K) (F := F) (H := H) (.inl hd1) ek
        refine d_get1 hu I (.inl ⟨ks, k, .inl h1, rfl, rfl⟩) rk fun w' s' J rw' => ⟨_, H, J, rw', ?_⟩
        rcases t1.val k with ⟨z1, z2⟩ | ⟨x, y, z1, z2, z3⟩
        · rw [z1]; exact fin_pure sF q (by rw [z2]; rfl) .non
        · rw [z1]; exact fin_pure sF q (by rw [z2]; rfl) z3
  | [d, x], .cons hd1 (.cons hd2 .nil), e =>
    simp only [mthD, hx, Bool.false_eq_true, if_false] at e
    cases ek : keyD d with
    | none => rw [ek] at e; cases e
    | some k =>
      rw [ek] at e
      cases e
      cases rs with
      | cons rk rs =>
        cases rs with
        | cons rx rs =>
          cases rs
          obtain rfl := RdV.key (K := X.K) (F := F) (H := H) (.inl hd1) ek
          refine d_get2 hu I (.inl ⟨ks, k, .inl h1, rfl, rfl⟩) rk rx fun w' s' J rw' => ⟨_, H, J, rw', ?_⟩
          rcases t1.val k with ⟨z1, z2⟩ | ⟨x', y, z1, z2, z3⟩
          · rw [z1]; exact fin_pure sF q (by rw [z2]; rfl) hd2
          · rw [z1]; exact fin_pure sF q (by rw [z2]; rfl) z3
theorem get_none {d : D} {ds : List D} {r : Rv} {d' : D} (e : mthD .get d ds = some (r, some d')) : False := by
  cases d with
  | dict kvs => match ds, e with
    | [k], e => simp only [mthD] at e; replace e := (isX_no e).2; cases ek : keyD k <;> rw [ek] at e <;> cases e
    | [k, x], e => simp only [mthD] at e; replace e := (isX_no e).2; cases ek : keyD k <;> rw [ek] at e <;> cases e
    | [], e => cases e
    | _ :: _ :: _ :: _, e => cases e
  | _ => cases e
def eqB (b : Bool) : Value -> Bool
  | .bool a => a == b
  | _ => false
theorem vals_bools : ∀ {bs : List Bool} {us : List Value}, Vals (bs.map V.bl) us -> us = bs.map Value.bool
  | [], _, .nil => rfl
  | b :: bs, _, .cons r t => by
    obtain rfl := r
    rw [vals_bools t]; rfl
theorem count_bools (b : Bool) : ∀ bs : List Bool, (bs.map Value.bool).countP (eqB b) = bs.count b
  | [] => rfl
  | a :: bs => by
    rw [List.map_cons, List.countP_cons, List.count_cons, count_bools b bs]
    rfl
theorem bools_dat {K : PySem.W.Frag} {F : Hp} : ∀ {xs : List D} {bs : List Bool} {vs : List V}, boolsOf xs = some bs -> DatL K F vs xs -> vs = bs.map V.bl
  | [], bs, _, h, t => by
    simp only [boolsOf] at h; cases h; cases t; rfl
  | x :: xs, bs, _, h, t => by
    cases t with
    | cons hx tx =>
      cases x with
      | bool b =>
        simp only [boolsOf] at h
        cases q : boolsOf xs with
        | none => rw [q] at h; cases h
        | some cs =>
          rw [q] at h; cases h
          cases hx
          rw [bools_dat q tx]; rfl
      | _ => simp [boolsOf] at h
theorem mt_bcount : MtR X "list.count" (fun x xs H Q => ∃ (p : Addr) (bs : List Bool) (b : Bool), x = .ref p ∧ xs = [.bl b] ∧ SqL X.K H p (bs.map V.bl) ∧ Q (.int (bs.count b : Nat)) H) := by
  intro pins s σ H x xs v us Q I rx rxs ⟨p, bs, b, ex, exs, hs, q⟩
  subst ex exs
  obtain rfl : v = Value.ref p := rx
  obtain ⟨u, eu, ru⟩ := vals1 rxs
  subst eu
  obtain rfl : u = Value.bool b := ru
  obtain ⟨its, rv, hl, _⟩ := I.list hs
  obtain ⟨⟨cc, dd, dt, sl⟩, n, ho, hc, hn, hd⟩ := hl
  simp only at hc hd
  subst hc hd
  have ei := vals_bools rv
  refine call_meets PySem.F.slot_list_count ⟨_, ho, rfl⟩ PySem.F.entry_list_count (PySem.F.args_list_count_2 _ _) (SeqAt.list_countAt p its.toArray n dd sl (.bool b) (eqB b)) ⟨ho, fun y hy => ?_, ?_⟩
  · have hy : y ∈ its := by simpa using hy
    rw [ei] at hy
    obtain ⟨a, _, rfl⟩ := List.mem_map.mp hy
    exact SeqAt.EqAt.bool_bool a b
  · refine ⟨.int (bs.count b : Nat), H, I.tok _, ⟨s.toks, ?_⟩, q⟩
    show Value.int ((its.toArray.toList.countP (eqB b) : Nat) : Int) s.toks = _
    rw [show its.toArray.toList = its from rfl, ei, count_bools]
theorem mthRun (hu : X.A.units + 1 < cLine) (m : Mf) : MtR X m.id (rMth X.K m) := by
  intro pins s σ H v vs vv us Q I rv rs h
  obtain ⟨F, d, ds, sF, hds, h⟩ := h
  cases m with
  | append =>
    rcases h with ⟨r, hd, e, q⟩ | ⟨a, r, d', rfl, nF, ho, e, q⟩
    · cases d with
      | list xs => match ds, e with
        | [y], e => simp only [mthD] at e; split at e <;> cases e
      | _ => cases e
    · cases d with
      | list xs => match ds, hds, e with
        | [y], hds, e =>
          simp only [mthD] at e
          split at e
          · rename_i hz
            cases e
            obtain ⟨ws, ho, t⟩ := ho
            cases hds with
            | cons hy n =>
              cases n
              exact mt_append pins s σ H _ _ vv us Q I rv rs ⟨a, ws, _, rfl, rfl, ho, by rw [t.length]; exact hz, q _ _ ⟨_, upd_same, t.append (.cons hy .nil)⟩ .non⟩
          · cases e
      | dict _ => simp [mthD] at e
      | _ => exact ho.elim
  | reverse =>
    rcases h with ⟨r, hd, e, q⟩ | ⟨a, r, d', rfl, nF, ho, e, q⟩
    · cases d with
      | list xs => match ds, e with
        | [], e => cases e
      | _ => cases e
    · cases d with
      | list xs => match ds, hds, e with
        | [], hds, e =>
          cases e
          cases hds
          obtain ⟨ws, ho, t⟩ := ho
          exact mt_reverse pins s σ H _ _ vv us Q I rv rs ⟨a, ws, rfl, rfl, ho, q _ _ ⟨_, upd_same, t.reverse⟩ .non⟩
      | dict _ => simp [mthD] at e
      | _ => exact ho.elim
  | get =>
    rcases h with ⟨r, hd, e, q⟩ | ⟨a, r, d', rfl, nF, ho, e, q⟩
    · cases d with
      | dict kvs => exact getRun hu I rv rs sF hds hd e q
      | _ => cases e
    · exact (get_none e).elim
  | isupper =>
    rcases h with ⟨r, hd, e, q⟩ | ⟨a, r, d', rfl, nF, ho, e, q⟩
    · cases d with
      | str z => match ds, hds, e with
        | [], .nil, e =>
          cases e
          obtain rfl := hd.str
          exact mt_isupper pins s σ H _ _ vv us Q I rv rs ⟨z, rfl, rfl, True.intro, fin_pure sF q rfl (.bl _)⟩
      | _ => cases e
    · cases d <;> cases ds <;> cases e
  | count =>
    rcases h with ⟨r, hd, e, q⟩ | ⟨a, r, d', rfl, nF, ho, e, q⟩
    · cases d with
      | list xs => match ds, hds, e with
        | [.bool b], hds, e =>
          simp only [mthD] at e
          cases qb : boolsOf xs with
          | none => rw [qb] at e; cases e
          | some bs =>
            rw [qb] at e
            cases e
            obtain ⟨a, ws, rfl, hsq, t⟩ := hd.list sF
            obtain rfl := bools_dat qb t
            cases hds with
            | cons hy hn =>
              cases hn
              cases hy
              exact mt_bcount pins s σ H _ _ vv us Q I rv rs ⟨a, bs, b, rfl, rfl, hsq, fin_pure sF q rfl (.int _)⟩
      | _ => simp [mthD] at e
    · cases d with
      | list xs => match ds, e with
        | [.bool b], e => simp only [mthD] at e; cases qb : boolsOf xs <;> rw [qb] at e <;> cases e
      | _ => simp [mthD] at e
theorem mthFacts (m : Mf) : PlainAttrs m.ty ∧ Slot m.ty (Str.ofString m.nm) m.id ∧ typeOf (.builtin m.id) = pure (.type "method_descriptor") := by
  cases m with
  | append => exact ⟨PySem.F.plainAttrs_list, PySem.F.slot_list_append, PySem.F.type_list_append⟩
  | reverse => exact ⟨PySem.F.plainAttrs_list, PySem.F.slot_list_reverse, PySem.F.type_list_reverse⟩
  | get => exact ⟨PySem.F.plainAttrs_dict, PySem.F.slot_dict_get, PySem.F.type_dict_get⟩
  | isupper => exact ⟨PySem.F.plainAttrs_str, PySem.F.slot_str_isupper, PySem.F.type_str_isupper⟩
  | count => exact ⟨PySem.F.plainAttrs_list, PySem.F.slot_list_count, PySem.F.type_list_count⟩
theorem mthTy {K : PySem.W.Frag} {F H : Hp} {m : Mf} {v : V} {d : D} (sF : Same F H) (h : RdV K F H v d) (e : okTy m d = true) : tyV K m.ty v H := by
  have lst : ∀ xs, d = .list xs -> tyV K "list" v H := fun xs z => by
    subst z
    obtain ⟨a, us, rfl, h1, _⟩ := h.list sF
    exact .inl ⟨rfl, us, h1⟩
  cases m with
  | append => cases d <;> first | exact lst _ rfl | cases e
  | reverse => cases d <;> first | exact lst _ rfl | cases e
  | count => cases d <;> first | exact lst _ rfl | cases e
  | get =>
    cases d with
    | dict ks =>
      obtain ⟨a, us, rfl, h1, _⟩ := h.dict sF (by simpa [okTy] using e)
      exact .inr (.inr (.inl ⟨rfl, .inl ⟨us, h1⟩⟩))
    | _ => cases e
  | isupper =>
    cases d with
    | str z => obtain rfl := h.str; rfl
    | _ => cases e
/-- what is asked where the method is called -/
theorem mth_red {K : PySem.W.Frag} {m : Mf} {x : Fx} {F H : Hp} {σ : L2.St} {δ : DEnv} {r : Rv} {v : V} {vs : List V} {ds : List D} {Q : VK} (R : Rel K x F σ H δ) (hv : ResV K x F H σ δ v (settle r)) (hds : DatL K F vs ds)
    (p : PostG K x σ W (RV K x σ) (mthA m (settle r) ds δ) F Q) : rMth K m v vs H Q := by
  unfold mthA at p
  cases e1 : rd δ (settle r) with
  | none => simp only [e1] at p; exact p.elim
  | some d =>
    simp only [e1] at p
    cases e2 : mthD m d ds with
    | none => simp only [e2] at p; exact p.elim
    | some z =>
      obtain ⟨y, o⟩ := z
      cases o with
      | none =>
        simp only [e2] at p
        exact ⟨F, d, ds, R.sub, hds, .inl ⟨y, R.read hv e1, e2, fun F' H' u g n => p F' H' u (R.grw g) g.f (R.resN n)⟩⟩
      | some d' =>
        cases y with
        | own _ => simp only [e2] at p; exact p.elim
        | bor _ => simp only [e2] at p; exact p.elim
        | pure y =>
          simp only [e2] at p
          cases e3 : settle r with
          | pure _ => simp only [e3] at p; exact p.elim
          | own _ => simp only [e3] at p; exact p.elim
          | bor i =>
            rw [e3] at hv e1
            simp only [e3] at p
            cases e4 : δ[i]? with
            | none => simp only [e4] at p; exact p.elim
            | some c =>
              simp only [e4] at p
              split at p
              · rename_i oc
                have hs := R.slot i c e4
                have hv : σ[i]? = some (some v) := hv
                simp only [rd, e4] at e1
                have ha : ∃ a, v = .ref a ∧ OwnAt K F H a d := by
                  cases c with
                  | emp => cases oc
                  | pure _ => cases oc
                  | own d0 => cases e1; obtain ⟨a, h1, h2⟩ := hs; rw [hv] at h1; cases h1; exact ⟨a, rfl, h2⟩
                  | inp d0 => cases e1; obtain ⟨a, h1, h2⟩ := hs; rw [hv] at h1; cases h1; exact ⟨a, rfl, h2⟩
                obtain ⟨a, rfl, ho⟩ := ha
                refine ⟨F, d, ds, R.sub, hds, .inr ⟨a, y, d', rfl, (R.own i c a e4 oc hv).1, ho, e2, fun o u ho' hu => ?_⟩⟩
                exact p F _ u (R.mut e4 oc hv ho') (Same.refl _) hu
              · exact p.elim
theorem snd_mth {m : Mf} {apos : Pos} (hu : X.A.units + 1 < cLine) (hb : noSuper a = true) (hl : (apos.endLine == pos.line) = true) (hz : es.length < 30) (hs : es.all noStar = true) (ho : PE X a (tE X.K Γ gl W ca)) (ha : PA X es (tEs X.K Γ gl W ces)) (hn : es = [] -> ces = .nil) :
    PE X (.Call (.Attribute a (Str.ofString m.nm) apos) es [] pos) (tE X.K Γ gl W (.mth m ca ces)) := by
  have hbase : attributeBase a (Str.ofString m.nm) X.env (eval a X.env) = eval a X.env := by
    cases a with
    | Call f as ks p => cases f with
      | Name id p2 => cases as with
        | nil => cases ks with
          | nil => simp [noSuper] at hb
          | cons _ _ => rfl
        | cons _ _ => cases ks <;> rfl
      | _ => rfl
    | _ => rfl
  obtain ⟨pa, slot, hty⟩ := mthFacts m
  have red : ∀ σ H Q, tE X.K Γ gl W (.mth m ca ces) σ H Q -> tBM X.K m.ty (rMth X.K m) (tE X.K Γ gl W ca) (tEs X.K Γ gl W ces) σ H Q := fun σ H Q ⟨x, F, δ, R, p⟩ => by
    unfold evalE at p
    refine ⟨x, F, δ, R, p.bind fun r1 δ1 F1 H1 v R1 s1 rv1 p1 => ?_⟩
    cases e1 : rd δ1 r1 with
    | none => simp only [e1] at p1; exact p1.elim
    | some d =>
      simp only [e1] at p1
      split at p1
      · rename_i ok
        refine ⟨mthTy R1.sub (R1.read rv1 e1) ok, ?_⟩
        obtain ⟨F2, R2, s2, rv2⟩ := R1.settle rv1
        refine ⟨x, F2, δ1, R2, (PostG.base s2 p1).bind fun ds δ3 F3 H3 vs R3 s3 hds p3 => ?_⟩
        exact mth_red R3 (rv2.stay s3) hds p3
      · exact p1.elim
  cases es with
  | nil =>
    refine PE.imp (pe_bm0 pa slot hty (mthRun hu m) ho hbase hl) fun σ H Q h => ?_
    obtain rfl := hn rfl
    have z := red σ H Q h
    obtain ⟨x, F, δ, R, p⟩ := z
    refine ⟨x, F, δ, R, ?_⟩
    cases e : evalE Γ gl ca δ with
    | no => rw [e] at p; exact p
    | ex e2 δ2 => rw [e] at p; exact p
    | ok r δ1 =>
      rw [e] at p
      intro F' H' v R' s' rv
      obtain ⟨ty, x2, F2, δ2, R2, p2⟩ := p F' H' v R' s' rv
      unfold evalEs at p2
      exact ⟨ty, p2 F2 H' [] R2 (Same.refl _) .nil⟩
  | cons e es' =>
    have hs' := hs
    rw [List.all_cons, Bool.and_eq_true] at hs'
    refine PE.imp (pe_bm pa slot hty (mthRun hu m) ho ha hbase ?_ hl (noStar_each hs'.1) (plainStar hs'.2)) red
    have star : ∀ es : List Expr, es.all noStar = true -> (backTo pos (starEach es X.env)).all (fun x => !x.1) = true := fun es => by
      induction es with
      | nil => intro _; simp only [starEach]; rfl
      | cons e r ih =>
        intro h
        rw [List.all_cons, Bool.and_eq_true] at h
        rw [noStar_each h.1]
        show (!false && (backTo pos (starEach r X.env)).all (fun x => !x.1)) = true
        rw [ih h.2]; rfl
    rw [star _ hs]
    have hk : (backToKw pos (keywordEach [] X.env)).all (fun x => x.1.isSome) = true := by simp only [keywordEach]; rfl
    rw [hk]
    show (true && true && decide ((e :: es').length + 0 + 0 < 30)) = true
    rw [decide_eq_true (by simpa using hz)]; rfl
end
end DE

/-! DS1: sorted by the answers of a def. -/
namespace DE
open PySem PySem.Spec PyProof.Rows L2
theorem Grw.trans {F H F' H' F2 H2 : Hp} (g : Grw F H F' H') (g2 : Grw F' H' F2 H2) : Grw F H F2 H2 :=
  ⟨g.f.trans g2.f, g2.s, fun a o e => g2.h a o (g.h a o e), fun a e1 e2 => by
    by_cases z : F' a = none
    · have w := g2.n a z e2
      cases q : H a with
      | none => rfl
      | some o => rw [g.h a o q] at w; cases w
    · exact g.n a e1 z⟩
section
variable {X : Cx} {Γ : Calls} {pins : List (Addr × Obj)} {σ : L2.St}
/-- one call for a key -/
theorem key_call {f : Str} {k : Nat} {fa : Addr} {fd : FuncData} {ps : List Str} {A' : Around} (FO : FnOk X.prog X.w X.K X.mg X.base (L2.CX X.prog X.w) k fa fd ps (spD X.K Γ f)) (hr : Room k A') (hb : Binds X.K fd ps [])
    {s : Shared} {F H : Hp} {v : V} {u : Value} {d kd : D} {outs : List Cell} (I : Inv X pins σ H s) (e0 : Env0 X.prog X.w X.K X.mg X.base A' X.stack s H) (sF : Same F H) (hv : Dat X.K F v d) (r : RelV v u) (hk : Γ f [.pure d] = .ret (.pure kd) outs) :
    wpAny (model X.prog X.w) A' (call (.ref fa) [u]) (fun ku s' => ∃ F' H' kv, Inv X pins σ H' s' ∧ RelV kv ku ∧ Grw F H F' H' ∧ Dat X.K F' kv kd) (fun _ _ => False) s := by
  have hsp : spD X.K Γ f [v] H (fun kv H' => ∃ F', Grw F H F' H' ∧ Dat X.K F' kv kd) (fun _ _ _ => False) := by
    refine ⟨F, [.pure d], sF, .pure hv .nil, fun i j b d1 d2 _ _ h4 => ?_, ?_⟩
    · cases i with
      | zero => simp at h4
      | succ i => simp at h4
    · rw [hk]
      intro F' H' kv g hd
      have no : ∀ a, ¬ inpAt [v] [.pure d] a := fun a ⟨j, d', _, z⟩ => by
        cases j with
        | zero => simp at z
        | succ j => simp at z
      exact ⟨F', ⟨g.f, g.s, fun a o e => g.h a o e (no a), g.n⟩, hd⟩
  have hl : [u].length = ps.length := by rw [List.length_singleton]; exact FO.len _ _ _ _ hsp
  have b := hb s [u] I.kIn (by rw [List.append_nil]; exact hl)
  rw [List.append_nil] at b
  refine wpAny_call (codeAny_mono (FO.run A' X.stack s H ⟨[u], []⟩ [u] [v] _ _ hr e0 b (.cons r .nil) hsp) fun r s' hq => ?_)
  cases r with
  | error e =>
    obtain ⟨_, _, _, _, _, _, _, _, _, _, _, _, z⟩ := hq
    exact z.elim
  | ok fl =>
    cases fl with
    | ret u' =>
      obtain ⟨kv, H', J, rv, F', g, hd⟩ := I.after hq
      exact ⟨F', H', kv, J, rv, g, hd⟩
    | next => exact False.elim hq
    | brk => exact False.elim hq
    | cont => exact False.elim hq
open PySem.W in
/-- the keys are asked for, then the items are put in order -/
theorem ksrt_rest {f : Str} {k : Nat} {fa : Addr} {fd : FuncData} {ps : List Str} (FO : FnOk X.prog X.w X.K X.mg X.base (L2.CX X.prog X.w) k fa fd ps (spD X.K Γ f)) (hr : Room k X.A.in1.in1) (hb : Binds X.K fd ps [])
    {s : Shared} {F H : Hp} {a kS : Addr} {its : List Value} {vs : List V} {ds kds : List D} {e1 : Nat} {P : PySem.Fin → Shared → Prop} {E : Value → Shared → Prop} (I : Inv X pins σ H s) (ga : FpOk X pins H a) (gk : FpOk X pins H kS)
    (nk : s.heap.get? kS = some (seqObj "list" #[] 0)) (na : s.heap.get? a = some (seqObj "list" #[] e1)) (hka : kS ≠ a) (sF : Same F H) (hD : DatL X.K F vs ds) (rv : Vals vs its)
    (keys : ∀ (i : Nat) (d : D), ds[i]? = some d -> ∃ kd outs, kds[i]? = some kd ∧ Γ f [.pure d] = .ret (.pure kd) outs) (hlen : kds.length = ds.length) (hal : AllAlike kds) (hsk : Sortable kds) (hpl : PyData.plainAll kds = true) (hu : ∀ kd, kd ∈ kds -> X.A.in1.in1.units + kd.depth < cLine) (hZ : its.length ≤ sizeLine)
    (h : ∀ (F' H' : Hp) (s' : Shared) (out : List Value) (c : Nat), Inv X pins σ H' s' -> FpOk X pins H' a -> Grw F H F' H' -> s'.heap.get? a = some (seqObj "list" (List.toArray out) c) -> KeyedOut false kds its out -> P (.done (.ret .none)) s') :
    wpAny (model X.prog X.w) X.A.in1.in1 (ksk_rest a (.ref fa) false its.toArray e1 (.ref kS)) P E s := by
  have hl1 : its.length = ds.length := by rw [← rv.length, hD.length]
  unfold ksk_rest
  refine wpAny_bind (wpAny_rule ?_)
  first
    | rw [List.forIn_toArray]
    | (rw [← Array.forIn_toList]; simp only [List.toList_toArray])
  refine wpAny_bind (ksk_fold (fun i s' => ∃ (F' H' : Hp) (kvs : List V) (kA : Array Value) (e : Nat), Inv X pins σ H' s' ∧ FpOk X pins H' a ∧ FpOk X pins H' kS ∧ Grw F H F' H' ∧ s'.heap.get? kS = some (seqObj "list" kA e) ∧ s'.heap.get? a = some (seqObj "list" #[] e1) ∧ Vals kvs kA.toList ∧ DatL X.K F' kvs (kds.take i)) its 0 s
    ⟨F, H, [], #[], 0, I, ga, gk, Grw.refl sF, nk, na, .nil, by rw [List.take_zero]; exact .nil⟩ ?step ?done)
  case step =>
    rintro j x s' hx ⟨F', H', kvs, kA, e, J, ga', gk', g, nk', na', rk, hk⟩
    rw [Nat.zero_add] at hk ⊢
    have hj : j < its.length := (List.getElem?_eq_some_iff.mp hx).1
    obtain ⟨d, hd⟩ : ∃ d, ds[j]? = some d := ⟨_, List.getElem?_eq_getElem (by omega)⟩
    obtain ⟨v, hv, hvd⟩ := hD.get hd
    obtain ⟨kd, outs, hkd, hcall⟩ := keys j d hd
    obtain ⟨x', hx', rx⟩ := rv.get hv
    rw [hx] at hx'; cases hx'
    have hz : kA.size ≤ its.length := by
      have h1 := rk.length
      have h2 : kA.toList.length = kA.size := Array.length_toList
      rw [hk.length, List.length_take, h2] at h1
      omega
    have Jp := J.pinned (fp := [a, kS]) (fun b hb => by
      rcases List.mem_cons.mp hb with rfl | hb
      · exact ga'
      · obtain rfl := List.mem_singleton.mp hb; exact gk') (fun b hb => by
      rcases List.mem_cons.mp hb with rfl | hb
      · exact ⟨_, na', fun v z => by cases z⟩
      · obtain rfl := List.mem_singleton.mp hb; exact ⟨_, nk', fun v z => by cases z⟩)
    refine wpAny_bind (wpAny_attempt (wpAny_mono (key_call FO hr hb Jp Jp.env0.in1.in1 g.s (hvd.mono g.f) rx hcall) (fun ku s2 hq => ?_) fun _ _ z => z.elim))
    obtain ⟨F2, H2, kv, J2, rk2, g2, hkv⟩ := hq
    have p1 := J2.pin (a, _) (List.mem_append_right _ (List.mem_append_right _ (mem_pinsAt (List.mem_cons_self ..) na')))
    have p2 := J2.pin (kS, _) (List.mem_append_right _ (List.mem_append_right _ (mem_pinsAt (List.mem_cons_of_mem _ (List.mem_singleton.mpr rfl)) nk')))
    have na2 : s2.heap.get? a = some (seqObj "list" #[] e1) := p1.1
    have nk2 : s2.heap.get? kS = some (seqObj "list" kA e) := p2.1
    have J2' : Inv X pins σ H2 s2 := J2.unpinned
    have ga2 : FpOk X pins H2 a := ⟨p1.2.1, ga'.2⟩
    have gk2 : FpOk X pins H2 kS := ⟨p2.2.1, gk'.2⟩
    have s1 := Heap.SameBut.update s2.heap kS (Obj.mapSeq (·.push ku))
    obtain ⟨c2, hc2⟩ : ∃ c2, (s2.heap.update kS (Obj.mapSeq (·.push ku))).get? kS = some (seqObj "list" (kA.push ku) c2) := ⟨_, get?_update_seq nk2 (·.push ku)⟩
    refine wpAny_bind (listUpdate_at nk2 rfl ?_ (Nat.le_trans hz hZ) (Nat.le_trans (Nat.le_of_eq (Array.size_push ..)) (Nat.succ_le_succ (Nat.le_trans hz hZ))))
    refine wpAny_pure ⟨rfl, F2, H2, kvs ++ [kv], kA.push ku, c2, J2'.turnedL (ch := [kS]) (fun b o hb e => (s1.2 b (fun z => hb (by rw [z]; exact List.mem_singleton.mpr rfl))).trans e) (fun b hb => by rw [List.mem_singleton.mp hb]; exact gk2), ga2, gk2, g.trans g2, hc2, (s1.2 a hka.symm).trans na2, ?_, ?_⟩
    · have ea : (kA.push ku).toList = kA.toList ++ [ku] := by simp
      rw [ea]
      exact rk.append (.cons rk2 .nil)
    · have ek : kds.take (j + 1) = kds.take j ++ [kd] := by rw [List.take_add_one, hkd]; simp
      rw [ek]
      exact (hk.mono g2.f).append (.cons hkv .nil)
  case done =>
    rintro s' ⟨F', H', kvs, kA, e, J, ga', gk', g, nk', na', rk, hk⟩
    have e3 : kds.take (0 + its.length) = kds := List.take_of_length_le (by omega)
    rw [e3] at hk
    obtain ⟨as, hR⟩ := Dp.readsAll J kds kvs kA.toList ((hk.mono g.s).dp hpl) rk
    have hk' : EachIs (fun v k => ∃ as, Reads s'.heap v k as) kA.toList kds := by
      have z := readsAll_each (fun d : PyData => d) (vs := kA.toList) (bs := kds) (h := s'.heap) (as := as) (by rw [List.map_id']; exact hR)
      exact z
    have hsz : kA.size = its.length := by
      have h1 := rk.length
      have h2 : kA.toList.length = kA.size := Array.length_toList
      rw [hk.length, h2] at h1
      omega
    try dsimp only
    refine wpAny_bind (listItems_at nk' rfl ?_)
    obtain ⟨h₁, k1, k2⟩ := restrict s'.heap (fun b => b != kS)
    have kp : KeepsBut a h₁ s'.heap := fun b o _ e => by
      by_cases hb : b = kS
      · subst hb
        rw [k2 _ (by simp)] at e; cases e
      · rw [k1 b (by simpa using hb)] at e; exact e
    exact keyH_end (κ := dataKind s'.heap kds) (h₁ := h₁) kp (k2 kS (by simp)) nk' na' hka (SortsAt.data (s := s') hk' hal hsk hu) hsz hZ fun h3 tk3 c k3 n3 => h F' H' _ _ c (J.turnedL (h' := h3) (t' := tk3) (ch := [a, kS]) (fun b o hb e => by
      rw [List.mem_cons, List.mem_singleton, not_or] at hb
      exact k3 b o hb.1 ((k1 b (by simpa using hb.2)).trans e)) (fun b hb => by
      rcases List.mem_cons.mp hb with rfl | hb
      · exact ga'
      · rw [List.mem_singleton.mp hb]; exact gk')) ga' g n3 ⟨s'.heap, kA.toList, hal, rfl, hk'⟩
/-- an object of ours is laid open -/
theorem Inv.lay {s : Shared} {H : Hp} {a : Addr} {o : HO} (J : Inv X pins σ H s) (g : FpOk X pins H a) (new : ObjOk X.prog X.w (upd H a o) s.heap a o) : Inv X pins σ (upd H a o) s := by
  obtain ⟨g0, g1, g2, g3, g4, g5⟩ := g
  refine ⟨J.ok, J.os, J.bare, ⟨J.base.keep, J.base.slot, fun b ob e n hx => ?_, J.base.there, fun b xs e => ?_, fun b ob u e => ?_, fun b ps e => ?_⟩, J.loc, J.cell, ?_, fun y c e => ?_, fun p hp => ?_, HOk.laidN J.hok (fun _ _ e => e) g0 new, J.len⟩
  · rw [upd_ne]
    · exact J.base.free b ob e n hx
    · rintro rfl
      rcases g3 with z | z
      · exact hx z
      · exact absurd (Heap.lt_size e) (Nat.not_lt.mpr z)
  · have w := J.base.tups b xs e
    rw [upd_ne (ne_of_none w g0)]; exact w
  · have w := J.base.frzs b ob u e
    rw [upd_ne (ne_of_none w g0)]; exact w
  · obtain ⟨more, w⟩ := J.base.tbls b ps e
    exact ⟨more, by rw [upd_ne (ne_of_none w g0)]; exact w⟩
  · rw [upd_ne (Ne.symm g1)]; exact J.free
  · rw [upd_ne (g4 y c e)]; exact J.freeC y c e
  · obtain ⟨e, n, ne, nf, d⟩ := J.pin p hp
    exact ⟨e, by rw [upd_ne (g5 p hp)]; exact n, ne, nf, d⟩
theorem each_zip {K : PySem.W.Frag} {F : Hp} : ∀ {vs : List V} {us : List Value} {ds kds : List D}, DatL K F vs ds -> Vals vs us -> kds.length = ds.length -> PySem.W.EachIs (fun (u : Value) (p : D × D) => ∃ v, RelV v u ∧ Dat K F v p.1) us (ds.zip kds)
  | _, _, _, [], .nil, .nil, _ => .nil
  | _, _, _, _ :: _, .nil, .nil, h => by simp at h
  | _, _, _, [], .cons _ _, .cons _ _, h => by simp at h
  | _, _, _, k :: ks, .cons h1 t1, .cons r1 t2, h => .cons ⟨_, r1, h1⟩ (each_zip t1 t2 (by simpa using h))
theorem each_back {K : PySem.W.Frag} {F : Hp} {us : List Value} {ps : List (D × D)} (h : PySem.W.EachIs (fun (u : Value) (p : D × D) => ∃ v, RelV v u ∧ Dat K F v p.1) us ps) : ∃ vs, Vals vs us ∧ DatL K F vs (ps.map (·.1)) := by
  induction h with
  | nil => exact ⟨[], .nil, .nil⟩
  | cons h _ ih =>
    obtain ⟨v, r, d⟩ := h
    obtain ⟨vs, rs, ds⟩ := ih
    exact ⟨v :: vs, .cons r rs, .cons d ds⟩
open PySem.W in
/-- sorted(xs, key=f) -/
theorem ksrt {f : Str} {k : Nat} {fa : Addr} {fd : FuncData} {ps : List Str} (FO : FnOk X.prog X.w X.K X.mg X.base (L2.CX X.prog X.w) k fa fd ps (spD X.K Γ f)) (hr : Room k X.A.in1.in1) (hb : Binds X.K fd ps [])
    {s : Shared} {F H : Hp} {l : Addr} {its : List Value} {vs : List V} {ds kds : List D} {Q : VK} {E : Value → Shared → Prop} (I : Inv X pins σ H s) (hl : s.heap.IsList l its.toArray) (sF : Same F H) (hD : DatL X.K F vs ds) (rv : Vals vs its)
    (keys : ∀ (i : Nat) (d : D), ds[i]? = some d -> ∃ kd outs, kds[i]? = some kd ∧ Γ f [.pure d] = .ret (.pure kd) outs) (hlen : kds.length = ds.length) (hal : AllAlike kds) (hsk : Sortable kds) (hpl : PyData.plainAll kds = true) (hu : ∀ kd, kd ∈ kds -> X.A.in1.in1.units + kd.depth < cLine) (hZ : its.length ≤ sizeLine)
    (q : ∀ (F' H' : Hp) (u : V), Grw F H F' H' -> ResN X.K H F' H' u (.own (.list (srtK ds kds))) -> Q u H') :
    wpAny (model X.prog X.w) X.A (call (.builtin "sorted") [.ref l] [(Str.ofString "key", .ref fa)]) (EP X pins σ Q) E s := by
  refine sorted_of_sort hl hZ (ksk_s1 _ _) (fun _ => ksk_l1 _ _) fun E' => ?_
  rw [ksk_t1]
  obtain ⟨a, ea⟩ : ∃ a, a = s.heap.objs.size + 1 := ⟨_, rfl⟩
  rw [← ea]
  have ho : (copyHeap s.heap its).get? a = some (seqObj "list" its.toArray 0) := by rw [ea]; exact copyHeap_at _ _
  obtain ⟨e1, ho1⟩ : ∃ e1, ((copyHeap s.heap its).update a (Obj.mapSeq fun _ => (#[] : Array Value))).get? a = some (seqObj "list" #[] e1) := ⟨_, get?_update_seq ho fun _ => #[]⟩
  have hal1 : a < (copyHeap s.heap its).objs.size := Heap.lt_size ho
  have hkS : (((copyHeap s.heap its).update a (Obj.mapSeq fun _ => (#[] : Array Value))).push (seqObj "tuple" its.toArray 0)).objs.size = (copyHeap s.heap its).objs.size + 1 := by rw [size_push', Heap.size_update]
  unfold ksk_tree
  refine wpAny_bind (listItems_at ho rfl ?_)
  refine wpAny_bind (listUpdate_at ho rfl ?_ (by rw [List.size_toArray]; exact hZ) (Nat.zero_le _))
  refine wpAny_bind (seqEpoch_at ho1 rfl ?_)
  refine wpAny_bind (wpAny_newTuple ?_ (by show its.length ≤ _; exact hZ))
  refine wpAny_bind (wpAny_newList ?_ (Nat.zero_le _))
  refine wpAny_holding ?_
  have I1 : Inv X pins σ H { s with heap := (((copyHeap s.heap its).update a (Obj.mapSeq fun _ => (#[] : Array Value))).push (seqObj "tuple" its.toArray 0)).push (seqObj "list" #[] 0) } := I.kept (t' := s.toks) fun b o e =>
    sortingHeap_old (Nat.ne_of_lt (by rw [ea]; exact Nat.lt_succ_of_lt (Heap.lt_size e))) (copyHeap_old e)
  have ha : s.heap.objs.size ≤ a := by omega
  have hk2 : s.heap.objs.size ≤ (((copyHeap s.heap its).update a (Obj.mapSeq fun _ => (#[] : Array Value))).push (seqObj "tuple" its.toArray 0)).objs.size := by rw [hkS]; omega
  have hne : (((copyHeap s.heap its).update a (Obj.mapSeq fun _ => (#[] : Array Value))).push (seqObj "tuple" its.toArray 0)).objs.size ≠ a := by
    rw [hkS]
    exact Nat.ne_of_gt (Nat.lt_succ_of_lt hal1)
  refine ksrt_rest FO hr hb (kds := kds) I1 (I.fpOk ha (I.hok.fresh ha)) (I.fpOk hk2 (I.hok.fresh hk2)) (Heap.get?_push_size _ rfl) (Heap.get?_push_of_some _ (Heap.get?_push_of_some _ ho1)) hne sF hD rv keys hlen hal hsk hpl hu hZ
    fun F' H' s' out c J ga g hout ko => ⟨rfl, ?_⟩
  have eb : (ds.zip kds).map (·.2) = kds := by rw [List.map_snd_zip]; omega
  have ez := keyedOut_each (bs := ds.zip kds) (fun p : D × D => p.2) (rev := false) (vs := its) (out := out) (by rw [eb]; exact ko) (each_zip (hD.mono g.f) rv hlen)
  obtain ⟨ws, rw', hw⟩ := each_back ez
  have hsz : ws.length ≤ sizeLine := by
    rw [rw'.length, ko.length (by rw [hlen, ← hD.length, rv.length])]; exact hZ
  have J2 := Inv.lay (o := .lst ws) J ga ⟨hsz, out, c, rw', hout⟩
  have hn : H a = none := I.hok.fresh ha
  refine ⟨.ref a, upd H' a (.lst ws), J2, rfl, q F' _ _ ⟨g.f, same_updR g.s (g.s.free ga.1), fun b o e => ?_, g.n⟩ ⟨a, rfl, ⟨ws, upd_same, hw⟩, g.s.free ga.1, hn⟩⟩
  rw [upd_ne (ne_of_none e hn)]
  exact g.h b o e
end
end DE

/-! DS2: sorted by a def, as an expression. -/
namespace DE
open PySem PySem.Spec PyProof.Rows L2
theorem keysD_get {Γ : Calls} {f : Str} : ∀ {ds ks : List D}, keysD Γ f ds = some ks -> ks.length = ds.length ∧ ∀ (i : Nat) (d : D), ds[i]? = some d -> ∃ kd outs, ks[i]? = some kd ∧ Γ f [.pure d] = .ret (.pure kd) outs
  | [], ks, h => by
    simp only [keysD] at h
    cases h
    exact ⟨rfl, fun i d z => by simp at z⟩
  | d :: r, ks, h => by
    simp only [keysD] at h
    split at h
    · rename_i k outs q
      cases e : keysD Γ f r with
      | none => rw [e] at h; cases h
      | some ks' =>
        rw [e] at h
        cases h
        obtain ⟨h1, h2⟩ := keysD_get e
        refine ⟨by rw [List.length_cons, List.length_cons, h1], fun i d' z => ?_⟩
        cases i with
        | zero => simp at z; subst z; exact ⟨k, outs, rfl, q⟩
        | succ i => simpa using h2 i d' (by simpa using z)
    · cases h
section
variable {X : Cx} {Γ : Calls} {gl : Str -> Option D} {W : WX} {a : Expr} {ca : CE} {pos : Pos}
def rSrt (K : PySem.W.Frag) (Γ : Calls) (f : Str) (fa : Addr) : List V -> List V -> Hp -> VK -> Prop := fun vs zs H Q => zs = [.ref fa] ∧ ∃ v d F y, vs = [v] ∧ Same F H ∧ RdV K F H v d ∧ srtD Γ f d = some y ∧ ∀ F' H' u, Grw F H F' H' -> ResN K H F' H' u y -> Q u H'
theorem cr_srt {f : Str} {k : Nat} {fa : Addr} {fd : FuncData} {ps : List Str} (hu : X.A.units + 70 < cLine) (FO : FnOk X.prog X.w X.K X.mg X.base (L2.CX X.prog X.w) k fa fd ps (spD X.K Γ f)) (hr : Room k X.A.in1.in1) (hb : Binds X.K fd ps []) :
    CallRK X (.builtin "sorted") [Str.ofString "key"] (rSrt X.K Γ f fa) := by
  intro pins s σ H vs zs us ws Q I r rz h
  obtain ⟨rfl, v, d, F, y, rfl, sF, hd, e, q⟩ := h
  cases d with
  | list ds =>
    simp only [srtD] at e
    cases ek : keysD Γ f ds with
    | none => rw [ek] at e; cases e
    | some ks =>
      rw [ek] at e
      simp only at e
      split at e
      · rename_i hk
        cases e
        obtain ⟨h1, h2, h3, h4⟩ := okKeys_of hk
        obtain ⟨hlen, keys⟩ := keysD_get ek
        obtain ⟨l, xs, rfl, hs, t⟩ := hd.list sF
        rw [Vals.ref1 r]
        obtain rfl := Vals.ref1 rz
        obtain ⟨its, rv, hl, hz⟩ := I.list hs
        exact ksrt FO hr hb I hl.isList sF t rv keys hlen h2 h3 h1 (fun kd hkd => by have := h4 kd hkd; show X.A.units + 1 + 1 + kd.depth < cLine; omega) (by rw [← rv.length]; exact hz) q
      · cases e
  | _ => cases e
theorem snd_srt {f : Str} {p p2 p3 : Pos} (hc : X.A.units + 70 < cLine) (C : CallOk Γ X f) (hg : Gl X "sorted") (hm : X.mg "sorted" = none) (hgf : Gl X f) (hdf : (f == ("__debug__" : Str)) = false) (hs : noStar a = true) (ha : PE X a (tE X.K Γ gl W ca)) :
    PE X (.Call (.Name "sorted" p) [a] [⟨some "key", .Name f p2, p3⟩] pos) (tE X.K Γ gl W (.srt ca f)) := by
  obtain ⟨k, fa, fd, ps, ⟨_, rm⟩, hmf, kp, hb, FO⟩ := C
  have hf : PE X (.Name f p2) (tC (.ref fa)) := pe_glob hgf hmf (show RelV (.ref fa) (.ref fa) from rfl) hdf
  refine PE.imp (pe_callBK (cr_srt hc FO rm hb) hg hm (by decide +kernel) (pa_cons ha pa_nil (noStar_each hs)) (pk_cons hf pk_nil) (by decide) (by decide) (by rw [noStar_each hs]; rfl) (by rw [noStar_each hs]; rfl)) fun σ H Q ⟨x, F, δ, R, pp⟩ => ?_
  unfold evalE at pp
  refine ⟨x, F, δ, R, pp.bind fun r1 δ1 F1 H1 v R1 s1 rv1 p1 => ?_⟩
  obtain ⟨dd, y, _, hd, e, q⟩ := rdTo_of R1 rv1 p1
  exact ⟨rfl, v, dd, F1, y, rfl, R1.sub, hd, e, fun F' H' w g n => q F' H' w (R1.grw g) g.f (R1.resN n)⟩
end
end DE

/-! DS3: list(reversed(xs)). -/
namespace PySem
open PySem PySem.Spec PyProof.Rows RT PySem.W Builtin
section
variable {prog : Program} {w : World} {A : Around} {E : Value → Shared → Prop} {s : Shared}
theorem extend_revL {R : Result → Shared → Prop} {it l : Addr} {items : Array Value} (hh : A.handled = none) (hit : s.heap.IsRevIter it l ((items.size : Int) - 1)) (hl : s.heap.IsList l items) (hne : l ≠ it) (hn : items.size ≤ sizeLine) (S : Addr) (hSi : S ≠ it) (hSl : S ≠ l) (back : Value) (c : Nat)
    (hS : s.heap.get? S = some { cls := .type "list", dict := none, data := .seq #[] c, slots := #[] })
    (hR : ∀ h' tk acc' c', (∀ b o, b ≠ S → b ≠ it → s.heap.get? b = some o → h'.get? b = some o) → h'.get? S = some { cls := .type "list", dict := none, data := .seq acc' c', slots := #[] } →
      ItemsOf (fun i v => items[items.size - 1 - i]? = some v) acc' items.size → R (.ok (.ret back)) { s with heap := h', toks := tk }) :
    wpAny (model prog w) A.in1 (Builtin.List.listExtendWith (.ref S) (.ref it) back)
      (fun fin s' => match fin with | .done f => R (.ok f) s' | .again c' => c'.quiet = true ∧ codeAny (model prog w) A c' R s') (fun e s' => R (.error e) s') s := by
  have W := (Walks.listRev (prog := prog) (w := w) (A := A.in1) hh it l hne items).toS
  have hSf : S ∉ [it, l] := by simp only [List.mem_cons, List.not_mem_nil, or_false, not_or]; exact ⟨hSi, hSl⟩
  have hT : s.TypeIs (.ref it) "list_reverseiterator" := hit.typeIs
  have h1 : Builtin.List.listSameRef (.ref S) (.ref it) = false := by simp [Builtin.List.listSameRef, hSi]
  unfold Builtin.List.listExtendWith
  refine wpAny_bind (wpAny_typeOf hT ?_)
  rw [if_neg (by rw [h1]; decide)]
  refine wpAny_bind (wpAny_pyIter_revIter hit ?_)
  refine wpAny_bind (wpAny_holding ?_)
  unfold Builtin.List.listLengthHint
  refine wpAny_bind (wpAny_specialOf hT nolen_lri ?_)
  show wpAny _ A.in1 (specialOf (Value.ref it) (Str.ofString "__length_hint__") >>= _) _ _ _
  refine wpAny_bind (wpAny_specialOf hT hint_lri ?_)
  generalize hid : ("list_reverseiterator.__length_hint__" : String) = id0
  wp_delta
  rw [show splitId id0 = some ("list_reverseiterator", "__length_hint__") from by subst hid; decide +kernel]
  subst hid
  refine wpAny_bind (wpAny_isInstance (b := true) hT (by rw [isSubtype_type]; kernel_rfl) ?_)
  refine wpAny_pure ?_
  rw [if_neg (by decide)]
  have e0 : ((items.size : Nat) : Int) - 1 - ((0 : Nat) : Int) = (items.size : Int) - 1 := by omega
  refine wpAny_pure ⟨plainId_quiet F.plain_extend_loop _, codeAny_extend_loopS W hn _ hSf _ items.size 0 _ _ _ rfl (Nat.zero_le _) ⟨Nat.zero_le _, by rw [e0]; exact hit, hl⟩ hS (ItemsOf.nil _) fun s' acc' c' hm hS' hacc => ?_⟩
  rw [Moved.eq_with hm]
  refine hR s'.heap s'.toks acc' c' (fun b o hb hb2 e => hm.heap b o (fun hmem => ?_) e) hS' hacc
  rcases List.mem_cons.mp hmem with e' | hmem
  · exact hb e'
  · exact hb2 (List.mem_singleton.mp hmem)
theorem list_init_revL {R : Result → Shared → Prop} {it l : Addr} {items : Array Value} (hh : A.handled = none) (hit : s.heap.IsRevIter it l ((items.size : Int) - 1)) (hl : s.heap.IsList l items) (hne : l ≠ it) (hn : items.size ≤ sizeLine) (S : Addr) (hSi : S ≠ it) (hSl : S ≠ l)
    (hS : s.heap.get? S = some { cls := .type "list", data := .seq #[] })
    (hR : ∀ h' tk acc' c', (∀ b o, b ≠ S → b ≠ it → s.heap.get? b = some o → h'.get? b = some o) → h'.get? S = some { cls := .type "list", dict := none, data := .seq acc' c', slots := #[] } →
      ItemsOf (fun i v => items[items.size - 1 - i]? = some v) acc' items.size → R (.ok (.ret .none)) { s with heap := h', toks := tk }) :
    wpAny (model prog w) A.in1 (Builtin.«list.__init__» ⟨[.ref S, .ref it], []⟩)
      (fun fin s' => match fin with | .done f => R (.ok f) s' | .again c' => c'.quiet = true ∧ codeAny (model prog w) A c' R s') (fun e s' => R (.error e) s') s := by
  show wpAny _ _ (do let old ← Builtin.List.listItems (.ref S); Builtin.List.listUpdate (.ref S) (fun _ => #[]); letGo old.toList.reverse; Builtin.List.listExtendWith (.ref S) (.ref it) .none) _ _ s
  refine wpAny_bind ?_
  unfold Builtin.List.listItems
  refine wpAny_bind (wpAny_seqItems hS rfl (wpAny_pure ?_))
  show wpAny _ _ (updateSeq S (fun _ => #[]) >>= fun _ => letGo (#[] : Array Value).toList.reverse >>= fun _ => Builtin.List.listExtendWith (.ref S) (.ref it) .none) _ _ s
  refine wpAny_bind (wpAny_updateSeq hS rfl ?_)
  have hS2 := Heap.get?_update_self (Obj.mapSeq (fun _ => (#[] : Array Value))) hS rfl
  have oth : ∀ b o, b ≠ S → s.heap.get? b = some o → (s.heap.update S (Obj.mapSeq (fun _ => (#[] : Array Value)))).get? b = some o :=
    fun b o hb e => (Heap.get?_update_other _ _ (Ne.symm hb)).trans e
  refine wpAny_bind (wpAny_letGo ?_)
  refine extend_revL hh (hit.at fun o e => oth _ o (Ne.symm hSi) e) (by
    obtain ⟨o, ho, r⟩ := hl
    exact ⟨o, oth _ o (Ne.symm hSl) ho, r⟩) hne hn S hSi hSl .none _ hS2 fun h' tk acc' c' hk hS' hacc => ?_
  exact hR h' tk acc' c' (fun b o hb hb2 e => hk b o hb hb2 (oth b o hb e)) hS' hacc
theorem call_list_revL {it l : Addr} {items : Array Value} {Q : Value → Shared → Prop} (hh : A.handled = none) (hit : s.heap.IsRevIter it l ((items.size : Int) - 1)) (hl : s.heap.IsList l items) (hne : l ≠ it) (hn : items.size ≤ sizeLine)
    (hQ : ∀ h' tk acc' c', (∀ b o, b ≠ it → s.heap.get? b = some o → h'.get? b = some o) →
      h'.get? s.heap.objs.size = some { cls := .type "list", dict := none, data := .seq acc' c', slots := #[] } → ItemsOf (fun i v => items[items.size - 1 - i]? = some v) acc' items.size → Q (.ref s.heap.objs.size) { s with heap := h', toks := tk }) :
    wpAny (model prog w) A (call (.type "list") [.ref it]) Q E s := by
  refine callType_codes (Q₁ := fun obj s₁ => obj = .ref s.heap.objs.size ∧ s₁ = { s with heap := s.heap.push { cls := .type "list", data := .seq #[] } }) F.called_list (F.typeCall_list_1 _) F.entry_list_init
    (code_list_new _ ⟨rfl, rfl⟩) fun obj s₁ h₁ => ?_
  obtain ⟨rfl, rfl⟩ := h₁
  have hS : (s.heap.push { cls := .type "list", data := .seq #[] }).get? s.heap.objs.size = some { cls := .type "list", data := .seq #[] } := Heap.get?_push_size _ rfl
  obtain ⟨oi, hoi, _⟩ := id hit
  obtain ⟨ol, hol, _⟩ := id hl
  refine ⟨⟨_, hS, rfl⟩, F.args_list_init_2 _ _, list_init_revL (A := A.in1) hh (hit.at fun o e => Heap.get?_push_of_some _ e) (hl.push _) hne hn _ (Nat.ne_of_gt (Heap.lt_size hoi)) (Nat.ne_of_gt (Heap.lt_size hol)) hS fun h' tk acc' c' hk hS' hacc => ?_⟩
  exact ⟨rfl, hQ h' tk acc' c' (fun b o hb e => hk b o (Nat.ne_of_lt (Heap.lt_size e)) hb (Heap.get?_push_of_some _ e)) hS' hacc⟩
end
end PySem
namespace DE
open PySem PySem.Spec PyProof.Rows L2
section
variable {X : Cx} {Γ : Calls} {gl : Str -> Option D} {W : WX} {a : Expr} {ca : CE} {pos pos2 p p2 : Pos}
def tLRev (K : PySem.W.Frag) (te : TE) : TE := fun σ H Q => te σ H fun v H1 => ∃ (a : Addr) (xs : List V), v = .ref a ∧ SqL K H1 a xs ∧ ∀ q, H1 q = none -> Q (.ref q) (upd H1 q (.lst xs.reverse))
theorem pe_lrev {te : TE} (hc : X.calm = true) (hg : Gl X "list") (hm : X.mg "list" = none) (hg2 : Gl X "reversed") (hm2 : X.mg "reversed" = none) (hs0 : noStar a = true) (he : PE X a te) :
    PE X (.Call (.Name "list" p) [.Call (.Name "reversed" p2) [a] [] pos2] [] pos) (tLRev X.K te) := by
  have hs : starEach [a] X.env = (false, eval a X.env) :: starEach [] X.env := noStar_each hs0
  have hs2 : starEach [.Call (.Name "reversed" p2) [a] [] pos2] X.env = (false, eval (.Call (.Name "reversed" p2) [a] [] pos2) X.env) :: starEach [] X.env := noStar_each rfl
  refine ⟨fun pins s σ H Q I h => ?_⟩
  refine Call_ (ld_blt I hg hm boot_list (PyProof.Rows.callWith_type1 (args_cons (Call_ (ld_blt I hg2 hm2 PyProof.Rows.boot_reversed (PyProof.Rows.callWith_type1 (args_cons (thn (he.run pins s σ H _ I h) fun u s1 ⟨v, H1, I1, r1, q1⟩ => args_nil ?_) hs) hs rfl))) hs2) hs2 rfl))
  obtain ⟨l, xs, ev, hq, q⟩ := q1
  subst ev
  obtain rfl : u = Value.ref l := r1
  obtain ⟨its, rv, p', hz⟩ := I1.list hq
  refine call_reversed_list p'.isList (args_nil ?_)
  have k0 : ∀ b o, s1.heap.get? b = some o → (s1.heap.push (revObj l ((its.toArray.size : Int) - 1))).get? b = some o := fun b o e => Heap.get?_push_of_some _ e
  have I2 : Inv X pins σ H1 { s1 with heap := s1.heap.push (revObj l ((its.toArray.size : Int) - 1)) } := I1.kept (t' := s1.toks) k0
  obtain ⟨f0, f1, f2, f3, f4, f5⟩ := I1.fpOk (H' := H1) (b := s1.heap.objs.size) (Nat.le_refl _) (I1.hok.fresh (Nat.le_refl _))
  have hl := p'.isList
  obtain ⟨ol, hol, _⟩ := id hl
  have hne : l ≠ s1.heap.objs.size := Nat.ne_of_lt (Heap.lt_size hol)
  have hn : its.toArray.size ≤ sizeLine := by rw [List.size_toArray, ← rv.length]; exact hz
  refine call_list_revL (s := { s1 with heap := s1.heap.push (revObj l ((its.toArray.size : Int) - 1)) }) (I1.ok.hd hc) ⟨_, Heap.get?_push_size _ rfl, rfl, rfl⟩ (hl.push _) hne hn fun h' tk acc c' hk hS hi => ?_
  have I3 : Inv X pins σ H1 { s1 with heap := h', toks := tk } := I2.turned (t' := tk) (fun b o hb e => hk b o hb e) f0 f1 f3 f4 f5
  have hge : s1.heap.objs.size ≤ (s1.heap.push (revObj l ((its.toArray.size : Int) - 1))).objs.size := by rw [PyProof.Rows.size_push']; exact Nat.le_succ _
  have fr := I1.fpOk (H' := H1) hge (I1.hok.fresh hge)
  have hlen : xs.reverse.length ≤ sizeLine := by rw [List.length_reverse]; exact hz
  exact ⟨.ref _, upd H1 _ (.lst xs.reverse), Inv.lay I3 fr ⟨hlen, acc.toList, c', RT.vals_rev rv hi, by rw [Array.toArray_toList]; exact hS⟩, rfl, q _ (I1.hok.fresh hge)⟩
theorem snd_lrv (hc : X.calm = true) (hg : Gl X "list") (hm : X.mg "list" = none) (hg2 : Gl X "reversed") (hm2 : X.mg "reversed" = none) (hs : noStar a = true) (ha : PE X a (tE X.K Γ gl W ca)) :
    PE X (.Call (.Name "list" p) [.Call (.Name "reversed" p2) [a] [] pos2] [] pos) (tE X.K Γ gl W (.lrv ca)) := by
  refine PE.imp (pe_lrev hc hg hm hg2 hm2 hs ha) fun σ H Q ⟨x, F, δ, R, pp⟩ => ?_
  unfold evalE at pp
  refine ⟨x, F, δ, R, pp.bind fun r1 δ1 F1 H1 v R1 s1 rv1 p1 => ?_⟩
  obtain ⟨dd, y, _, hd, e, q⟩ := rdTo_of R1 rv1 p1
  cases dd with
  | list ds =>
    cases e
    obtain ⟨l, xs, rfl, hs, t⟩ := hd.list R1.sub
    refine ⟨l, xs, rfl, hs, fun z nz => ?_⟩
    exact q F1 _ _ (R1.beside _ nz) (Same.refl _) (R1.resN (u := .ref z) (r := .own (.list ds.reverse)) ⟨z, rfl, ⟨xs.reverse, upd_same, t.reverse⟩, R1.nF nz, nz⟩)
  | _ => cases e
end
end DE

/-! DS4: sorted(d.items()), sorted(d.keys()), displays of dicts. -/
namespace DE
open PySem PySem.Spec PyProof.Rows L2
/-- two sorted orders of one list are one -/
theorem perm_one {α : Type} {r : α -> α -> Prop} (anti : ∀ a b, r a b -> r b a -> a = b) : ∀ {l m : List α}, l.Pairwise r -> m.Pairwise r -> l.Perm m -> l = m
  | [], m, _, _, p => by rw [List.Perm.nil_eq p]
  | a :: l, [], _, _, p => by have := p.length_eq; simp at this
  | a :: l, b :: m, h1, h2, p => by
    have e : a = b := by
      rw [List.pairwise_cons] at h1 h2
      rcases List.mem_cons.mp (p.mem_iff.mp (List.mem_cons_self ..)) with z | z
      · exact z
      · rcases List.mem_cons.mp (p.mem_iff.mpr (List.mem_cons_self ..)) with y | y
        · exact y.symm
        · exact anti _ _ (h1.1 _ y) (h2.1 _ z)
    subst e
    rw [List.pairwise_cons] at h1 h2
    rw [perm_one anti h1.2 h2.2 (List.Perm.cons_inv p)]
theorem srtS_perm (ks : List Str) : (srtS ks).Perm ks := List.mergeSort_perm _ _
theorem srtS_sorted (ks : List Str) : (srtS ks).Pairwise fun a b => a.cps.toList ≤ b.cps.toList := by
  have z := List.pairwise_mergeSort (le := fun a b : Str => decide (a.cps.toList ≤ b.cps.toList)) (fun a b c h1 h2 => by
    simp only [decide_eq_true_eq] at *
    exact List.le_trans h1 h2) (fun a b => by
    simp only [Bool.or_eq_true, decide_eq_true_eq]
    exact List.le_total _ _) ks
  exact z.imp fun h => by simpa using h
theorem str_anti (a b : Str) (h1 : a.cps.toList ≤ b.cps.toList) (h2 : b.cps.toList ≤ a.cps.toList) : a = b := PySem.W.str_of_cps (List.le_antisymm h1 h2)
/-- a pair whose first is the text x -/
def SPair (h : Heap) (v : Value) (x : Str) : Prop := ∃ a t y, v = .ref a ∧ h.get? a = some { cls := .type "tuple", data := .seq #[.str x t, y] }
section
variable {prog : Program} {w : World} {A : Around} {s : Shared}
theorem spair_cmp {vs : List Value} {kx : Value -> Str} (hp : ∀ v ∈ vs, SPair s.heap v (kx v)) (inj : ∀ v ∈ vs, ∀ u ∈ vs, kx v = kx u -> v = u) :
    SrtO.Cmp prog w A s (tuples' true) (fun p => p.1 ∈ vs) (SrtO.lt2 fun v u => decide ((kx v).cps.toList < (kx u).cps.toList)) := by
  intro p q hm hm'
  have h1 := hp _ hm
  have h2 := hp _ hm'
  have h3 := inj _ hm _ hm'
  show wpAny (model prog w) A (keyLt' (tuples' true) p.1 q.1) (fun r s' => s' = s ∧ r = decide ((kx p.1).cps.toList < (kx q.1).cps.toList)) (fun _ _ => False) s
  generalize kx p.1 = x at *
  generalize kx q.1 = x' at *
  obtain ⟨a, t, y, e, ho⟩ := h1
  obtain ⟨a', t', y', e', ho'⟩ := h2
  rw [e, e'] at h3 ⊢
  refine PySem.W.kat_lt ho rfl ho' rfl ?_
  show PySem.W.KatLex prog w A true (decide (2 < 2)) _ [(.str x t, .str x' t'), (y, y')] 0 s
  refine PySem.W.kat_cons (SeqAt.EqAt.str_str x t x' t' prog w _ _ ?_)
  refine PySem.W.kat_go (fun e1 => ?_) (fun e1 => ?_)
  · have ex : x = x' := by simpa using e1
    have ea := h3 ex
    injection ea with ea
    subst ea ex
    rw [ho] at ho'
    have ey : y = y' := by
      injection ho' with z
      injection z with _ _ z _
      injection z with z _
      have z2 := congrArg Array.toList z
      simp at z2
      exact z2.2
    subst ey
    refine PySem.W.kat_yes (PySem.W.kat_cons (SeqAt.EqAt.same y prog w _ _ ?_))
    refine PySem.W.kat_go (fun _ => ?_) (fun z => by cases z)
    refine PySem.W.kat_yes (PySem.W.kat_nil ⟨rfl, ?_⟩)
    exact (decide_eq_false (List.lt_irrefl _)).symm
  · exact PySem.W.kat_no (PyProof.Rows.oneLt_str ⟨rfl, rfl⟩)
theorem sfirsts {h : Heap} : ∀ {vs : List Value}, (∀ v ∈ vs, ∃ x, SPair h v x) -> ∃ fs : List Value, PySem.W.KatTups h vs fs ∧ fs.length = vs.length ∧ ∀ f ∈ fs, ∃ x t, f = Value.str x t
  | [], _ => ⟨[], PySem.W.KatTups.nil, rfl, fun _ hm => by simp at hm⟩
  | v :: vs, hp => by
    obtain ⟨fs, h1, h2, h3⟩ := sfirsts (vs := vs) fun v' hm => hp v' (List.mem_cons_of_mem _ hm)
    obtain ⟨x, a, t, y, e, ho⟩ := hp v (List.mem_cons_self ..)
    subst e
    refine ⟨.str x t :: fs, PySem.W.KatTups.cons ho rfl rfl rfl h1, (by rw [List.length_cons, List.length_cons, h2]), fun f hm => ?_⟩
    rcases List.mem_cons.mp hm with rfl | hm
    · exact ⟨x, t, rfl⟩
    · exact h3 f hm
theorem spair_ord {a : Addr} {vs : List Value} {kx : Value -> Str} (h0 : 0 < vs.length) (hp : ∀ v ∈ vs, SPair s.heap v (kx v)) (inj : ∀ v ∈ vs, ∀ u ∈ vs, kx v = kx u -> v = u) (ha : ∀ o, s.heap.get? a = some o -> o.cls ≠ .type "tuple") :
    SrtO.SortableO prog w A s a vs fun v u => decide ((kx v).cps.toList < (kx u).cps.toList) := by
  intro h' keep
  have hp' : ∀ v ∈ vs, SPair h' v (kx v) := fun v hm => by
    obtain ⟨b, t, y, e, ho⟩ := hp v hm
    exact ⟨b, t, y, e, keep b _ (fun z => by subst z; exact ha _ ho rfl) ho⟩
  obtain ⟨fs, h1, h2, h3⟩ := sfirsts fun v hm => ⟨_, hp' v hm⟩
  refine ⟨tuples' true, fun Q E hq => ?_, spair_cmp hp' inj⟩
  refine PySem.W.kat_kind (T := .type "str") h1 (by omega) (fun f hm => ?_) (by rfl) ?_
  · obtain ⟨x, t, rfl⟩ := h3 f hm
    exact PySem.W.Looks.now
  · have e : (Value.type "str" != Value.type "tuple") = true := by first | decide +kernel | rfl | decide
    rw [e]
    exact hq
theorem swo_str (kx : Value -> Str) : SrtO.Swo fun v u => decide ((kx v).cps.toList < (kx u).cps.toList) := by
  refine ⟨fun x y h => ?_, fun x y z h1 h2 => ?_⟩
  · have h : (kx x).cps.toList < (kx y).cps.toList := by simpa using h
    exact decide_eq_false (fun q => List.lt_irrefl _ (List.lt_trans h q))
  · have h1 := List.not_lt.mp (of_decide_eq_false h1)
    have h2 := List.not_lt.mp (of_decide_eq_false h2)
    exact decide_eq_false (List.not_lt.mpr (List.le_trans h1 h2))
end

section
variable {X : Cx} {pins : List (Addr × Obj)} {σ : L2.St}
/-- tuples that stand are tracked, within the still part -/
theorem takeF {H0 : Hp} {s : Shared} {P : Addr -> Obj -> List V -> Prop} {h' : Heap} {tk : Nat} (I0 : Inv X pins σ H0 s) : ∀ (L : List Addr) (F1 H1 : Hp), Inv X pins σ H1 { s with heap := h', toks := tk } -> Same F1 H1 -> L.Nodup ->
    (∀ a ∈ L, s.heap.objs.size ≤ a ∧ H1 a = none ∧ ∃ o vs, P a o vs ∧ ∀ H2, ObjOk X.prog X.w H2 h' a (.frz o (.tup vs))) ->
    ∃ F2 H2, Inv X pins σ H2 { s with heap := h', toks := tk } ∧ Grw F1 H1 F2 H2 ∧ (∀ b, b ∉ L -> H2 b = H1 b) ∧ ∀ a ∈ L, ∃ o vs, P a o vs ∧ F2 a = some (.frz o (.tup vs))
  | [], F1, H1, I1, sF, _, _ => ⟨F1, H1, I1, Grw.refl sF, fun _ _ => rfl, fun _ h => nomatch h⟩
  | a :: L, F1, H1, I1, sF, hn, h => by
    obtain ⟨hb, hnone, o, vs, hP, ok⟩ := h a (List.mem_cons_self ..)
    have I2 : Inv X pins σ (upd H1 a (.frz o (.tup vs))) { s with heap := h', toks := tk } := Inv.lay I1 (I0.fpOk hb hnone) (ok _)
    rw [List.nodup_cons] at hn
    have g1 : Grw F1 H1 (upd F1 a (.frz o (.tup vs))) (upd H1 a (.frz o (.tup vs))) := Grw.still sF hnone
    obtain ⟨F2, H2, I3, g, oth, q⟩ := takeF I0 L (upd F1 a (.frz o (.tup vs))) (upd H1 a (.frz o (.tup vs))) I2 g1.s hn.2 fun c hc => by
      obtain ⟨c1, c2, c3⟩ := h c (List.mem_cons_of_mem _ hc)
      exact ⟨c1, (by rw [upd_ne (fun z => hn.1 (by rw [← z]; exact hc))]; exact c2), c3⟩
    refine ⟨F2, H2, I3, g1.trans g, fun b hb2 => ?_, fun c hc => ?_⟩
    · rw [List.mem_cons, not_or] at hb2
      rw [oth b hb2.2, upd_ne hb2.1]
    · rcases List.mem_cons.mp hc with rfl | hc
      · exact ⟨o, vs, hP, g.f _ _ upd_same⟩
      · exact q c hc
def kxOf (h : Heap) (v : Value) : Str := match v with
  | .ref a => match h.get? a with
    | some o => match o.data with
      | .seq items _ => match items[0]? with
        | some (Value.str x _) => x
        | _ => ⟨#[]⟩
      | _ => ⟨#[]⟩
    | none => ⟨#[]⟩
  | _ => ⟨#[]⟩
theorem kxOf_at {h : Heap} {a : Addr} {x : Str} {t : Tok} {y : Value} (e : h.get? a = some { cls := .type "tuple", data := .seq #[.str x t, y] }) : kxOf h (.ref a) = x := by
  unfold kxOf
  simp only [e]
  rfl
variable {e : Expr} {te : TE} {p apos cpos pos : Pos}
def sitL (ds : List (D × D)) (xs : List Str) : List D := (srtS xs).map fun x => .tuple [.str x, (getKV ds (.inr x)).getD .none]
def tSit (K : PySem.W.Frag) (te : TE) (mk : List (D × D) -> List Str -> List D) : TE := fun σ H Q => te σ H fun v H1 => ∃ F a ks ds xs, v = .ref a ∧ Same F H1 ∧ H1 a = some (.dK ks) ∧ DatK K F ks ds ∧ strKs ds = some xs ∧
  ∀ F' H' u, Grw F H1 F' H' -> ResN K H1 F' H' u (.own (.list (mk ds xs))) -> Q u H'
theorem paired_at {α β : Type} {P : α -> β -> Prop} : ∀ {xs : List α} {ys : List β}, Paired P xs ys -> ∀ {j : Nat} {y : β}, ys[j]? = some y -> ∃ x, xs[j]? = some x ∧ P x y
  | _, _, .nil, j, y, h => by simp at h
  | _, _, .cons r _, 0, y, h => by simp at h; subst h; exact ⟨_, rfl, r⟩
  | _, _, .cons _ t, j + 1, y, h => by simpa using paired_at t (j := j) (by simpa using h)
theorem DatK.at {K : PySem.W.Frag} {F : Hp} : ∀ {ks : List (Key × V)} {ds : List (D × D)}, DatK K F ks ds -> (ks.map (·.1)).Nodup -> ∀ {j : Nat} {k : Key} {v : V}, ks[j]? = some (k, v) -> ∃ d, getKV ds k = some d ∧ Dat K F v d
  | _, _, .nil, _, j, k, v, h => by simp at h
  | _, _, .cons (k := i) (v := w) (d := d) hd t, nd, 0, k, v, h => by
    simp at h
    obtain ⟨rfl, rfl⟩ := h
    exact ⟨d, getKV_pos, hd⟩
  | _, _, .cons (k := i) (v := w) (d := d) hd t, nd, j + 1, k, v, h => by
    rw [List.map_cons, List.nodup_cons] at nd
    rw [List.getElem?_cons_succ] at h
    obtain ⟨d2, h1, h2⟩ := DatK.at t nd.2 (j := j) (k := k) (v := v) h
    refine ⟨d2, ?_, h2⟩
    rw [getKV_neg]
    · exact h1
    · rintro rfl
      exact nd.1 (List.mem_map.mpr ⟨_, List.mem_of_getElem? h, rfl⟩)
theorem datL_refs {K : PySem.W.Frag} {F : Hp} {f : Addr -> D} : ∀ (os : List Addr), (∀ a ∈ os, Dat K F (V.ref a) (f a)) -> DatL K F (os.map V.ref) (os.map f)
  | [], _ => .nil
  | a :: r, h => .cons (h a (List.mem_cons_self ..)) (datL_refs r fun b hb => h b (List.mem_cons_of_mem _ hb))
theorem pe_sit (hc : X.calm = true) (hg : Gl X "sorted") (hm : X.mg "sorted" = none) (he : PE X e te) (hbase : attributeBase e "items" X.env (eval e X.env) = eval e X.env) (hline : (apos.endLine == cpos.line) = true) :
    PE X (.Call (.Name "sorted" p) [.Call (.Attribute e "items" apos) [] [] cpos] [] pos) (tSit X.K te sitL) := by
  have hs : starEach [.Call (.Attribute e "items" apos) [] [] cpos] X.env = (false, eval (.Call (.Attribute e "items" apos) [] [] cpos) X.env) :: starEach [] X.env := noStar_each rfl
  refine ⟨fun pins s σ H Q I hq => ?_⟩
  refine Call_ (ld_blt I hg hm PyProof.Rows.boot_sorted (PyProof.Rows.callWith_builtin1 (PyProof.Rows.args_cons ?_ hs) hs rfl))
  refine wpAny_Call_method (T := "dict") (id := "dict.items") hbase rfl hline PySem.F.plainAttrs_dict PySem.F.slot_dict_items PySem.F.type_dict_items (thn (he.run pins s σ H _ I hq) fun u s1 ⟨x, H1, I1, rx, F, d, ks, ds, xs, ex, sF, hd, hD, hS, q⟩ => ?_)
  subst ex
  obtain rfl : u = Value.ref d := rx
  obtain ⟨hz, hs0, vs, kv, hdo⟩ := I1.hok d _ hd
  obtain ⟨ep, hat⟩ := hdo.dictAt
  have lk : ks.length = vs.length := Paired.length kv
  have nd0 : (ks.map (·.1)).Nodup := by
    obtain ⟨_, _, _, _, _, _, _, _, nd⟩ := hdo
    rw [kv.keys]; exact nd
  have ek := strKs_eq hD hS
  have I2 : Inv X pins σ H1 { s1 with heap := s1.heap.push { cls := .type "dict_items", data := .fields #[.ref d] } } := I1.kept (t' := s1.toks) fun b ob q => Heap.get?_push_of_some _ q
  refine ⟨hdo.typeIs, hdo.mapOf.noDict, ?_⟩
  show wpAny _ _ (callWith cpos (.builtin "dict.items") [.ref d] [] []) _ X.xe s1
  refine method_meetsIn PySem.F.slot_dict_items PySem.F.entry_dict_items rfl (PySem.evalArgs_none ⟨rfl, hdo.typeIs, PySem.F.args_dict_items_1 _, _, meets_dict_items (mixKind X.prog X.w) d hs0, ⟨vs, hdo⟩, ?_⟩)
  refine PyProof.Rows.args_nil ?_
  have hview : (s1.heap.push { cls := .type "dict_items", data := .fields #[.ref d] }).IsItemsView s1.heap.objs.size d := ⟨_, Heap.get?_push_size _ rfl, rfl, rfl⟩
  generalize hs2 : s1.heap.push { cls := .type "dict_items", data := .fields #[.ref d] } = hp2 at I2 hview ⊢
  have hat2 : hp2.DictAt (mixKind X.prog X.w) d vs ep := by rw [← hs2]; exact hat.push _
  have sz2 : hp2.objs.size = s1.heap.objs.size + 1 := by rw [← hs2, PyProof.Rows.size_push']
  have hh : X.A.handled = none := I1.ok.hd hc
  refine Calls.call_function_entry PyProof.Rows.kind_sorted PyProof.Rows.plain_sorted PyProof.Rows.entry_sorted (PyProof.Rows.args_sorted1 _) ?_
  unfold Builtin.«sorted»
  refine wpAny_bind (m := checkCount "sorted" 1 1 _) (wpAny_pure ?_)
  refine wpAny_bind (PySem.W.kdx_collect (s := { s1 with heap := hp2 }) (knd := mixKind X.prog X.w) (A := X.A.in1) (kvs := vs) (ep := ep) hh hview hat2 (by omega) fun h' tk as hk hl hG => ?_)
  refine wpAny_bind (wpAny_newList ?_ (by rw [List.length_map, hl]; omega))
  have hk : ∀ b o, hp2.get? b = some o -> h'.get? b = some o := hk
  have hG : PySem.W.KdxG (mixKind X.prog X.w) vs hp2.objs.size h' as := hG
  have sz3 : hp2.objs.size ≤ h'.objs.size := by
    obtain ⟨ov, hov, _⟩ := hview
    have z : s1.heap.objs.size < h'.objs.size := Heap.lt_size (hk _ _ hov)
    omega
  have nd : as.Nodup := List.Pairwise.imp (fun h => Nat.ne_of_lt h) hG.rise
  -- the pairs
  have pr : ∀ (j : Nat) (b : Addr), as[j]? = some b -> ∃ (x : Str) (v : V) (t : Tok) (y : Value), ks[j]? = some (.inr x, v) ∧ RelV v y ∧ h'.get? b = some { cls := .type "tuple", data := .seq #[.str x t, y] } := by
    intro j b hj
    obtain ⟨key, k, y, f1, f2, f3⟩ := hG.pairs j b hj
    obtain ⟨⟨k2, v⟩, g1, g2, g3⟩ := paired_at kv f1
    have e1 : (ks.map (·.1))[j]? = some k2 := by rw [List.getElem?_map, g1]; rfl
    rw [ek, List.getElem?_map] at e1
    cases ex : xs[j]? with
    | none => rw [ex] at e1; cases e1
    | some x =>
      rw [ex] at e1
      have e1 : Sum.inr x = k2 := Option.some.inj e1
      have g2 : k2 = k := g2
      subst e1
      subst g2
      obtain ⟨t, rfl⟩ : ∃ t, key = Value.str x t := (show RelV (kV (.inr x)) key from relV_key (show keyIs (.inr x) key = true from f2))
      exact ⟨x, v, t, y, g1, g3, f3⟩
  have at_ : ∀ v ∈ as.map Value.ref, ∃ (j : Nat) (b : Addr), v = .ref b ∧ as[j]? = some b := by
    intro v hv'
    obtain ⟨b, hb, rfl⟩ := List.mem_map.mp hv'
    obtain ⟨j, hj⟩ := List.mem_iff_getElem?.mp hb
    exact ⟨j, b, rfl, hj⟩
  have kx : ∀ (j : Nat) (b : Addr), as[j]? = some b -> xs[j]? = some (kxOf h' (.ref b)) := by
    intro j b hj
    obtain ⟨x, v, t, y, h1, _, h3⟩ := pr j b hj
    rw [kxOf_at h3]
    have e1 : (ks.map (·.1))[j]? = some (.inr x) := by rw [List.getElem?_map, h1]; rfl
    rw [ek, List.getElem?_map] at e1
    cases ex : xs[j]? with
    | none => rw [ex] at e1; cases e1
    | some x' => rw [ex] at e1; cases e1; rfl
  have lx : xs.length = as.length := by
    have z := congrArg List.length ek
    rw [List.length_map, List.length_map] at z
    omega
  have mapx : (as.map Value.ref).map (kxOf h') = xs := by
    apply List.ext_getElem?
    intro j
    rw [List.getElem?_map, List.getElem?_map]
    cases ea : as[j]? with
    | none =>
      have z := List.getElem?_eq_none_iff.mp ea
      rw [List.getElem?_eq_none (by omega)]; rfl
    | some b => rw [kx j b ea]; rfl
  have ndx : xs.Nodup := by
    have z := nd0
    rw [ek] at z
    exact (List.pairwise_map.mp z).imp fun h e => h (congrArg _ e)
  have inj : ∀ v ∈ as.map Value.ref, ∀ u ∈ as.map Value.ref, kxOf h' v = kxOf h' u -> v = u := by
    intro v hv u hu e
    obtain ⟨i, b, rfl, hi⟩ := at_ v hv
    obtain ⟨j, c, rfl, hj⟩ := at_ u hu
    have e1 := kx i b hi
    have e2 := kx j c hj
    rw [e] at e1
    have eij : i = j := (List.getElem?_inj (List.getElem?_eq_some_iff.mp e1).1 ndx).mp (e1.trans e2.symm)
    subst eij
    rw [hi] at hj; cases hj; rfl
  have spr : ∀ v ∈ as.map Value.ref, SPair h' v (kxOf h' v) := by
    intro v hv
    obtain ⟨j, b, rfl, hj⟩ := at_ v hv
    obtain ⟨x, _, t, y, _, _, h3⟩ := pr j b hj
    rw [kxOf_at h3]
    exact ⟨b, t, y, rfl, h3⟩
  -- the list
  have hob : (h'.push { cls := .type "list", data := .seq (as.map Value.ref).toArray }).get? h'.objs.size = some (seqObj "list" (as.map Value.ref).toArray 0) := Heap.get?_push_size _ rfl
  have ne0 : ∀ b o, h'.get? b = some o -> b ≠ h'.objs.size := fun b o e => Nat.ne_of_lt (Heap.lt_size e)
  generalize hh3 : h'.push { cls := .type "list", data := .seq (as.map Value.ref).toArray } = h3 at hob ⊢
  have ka : ∀ b o, h'.get? b = some o -> h3.get? b = some o := fun b o e => by rw [← hh3]; exact Heap.get?_push_of_some _ e
  refine wpAny_bind (wpAny_holding (wpAny_call_entry PyProof.Rows.slot_list_sort ⟨_, hob, rfl⟩ PyProof.Rows.entry_list_sort
    (SrtO.list_sort_ord (s := { s1 with heap := h3, toks := tk }) (ltv := fun v u => decide ((kxOf h' v).cps.toList < (kxOf h' u).cps.toList)) (swo_str _) hob (by rw [List.length_map, hl]; omega) (fun h2 => spair_ord (s := { s1 with heap := h3, toks := tk }) (by omega) (fun v hv => ?_) inj (fun o z => ?_)) fun out o1 o2 => ⟨_, rfl, ?_⟩) (PyProof.Rows.args_list_sort _)))
  · obtain ⟨b, t, y, e1, e2⟩ := spr v hv
    exact ⟨b, t, y, e1, ka _ _ e2⟩
  · have z : h3.get? h'.objs.size = some o := z
    rw [hob] at z; cases z
    intro w
    exact absurd (Value.type.inj w) (by decide)
  · refine wpAny_pure ⟨_, rfl, ?_⟩
    show EP X pins σ Q (.ref h'.objs.size) { s1 with heap := sortedHeap h3 h'.objs.size (as.map Value.ref) out.toArray, toks := tk }
    have kF : ∀ b o, b ≠ h'.objs.size -> h3.get? b = some o -> (sortedHeap h3 h'.objs.size (as.map Value.ref) out.toArray).get? b = some o := fun b o hb e => (PyProof.Rows.sortedHeap_old hb (Heap.lt_size e)).trans e
    have kS : ∀ b o, hp2.get? b = some o -> (sortedHeap h3 h'.objs.size (as.map Value.ref) out.toArray).get? b = some o := fun b o e => kF b o (ne0 _ _ (hk b o e)) (ka _ _ (hk b o e))
    obtain ⟨eF, heF⟩ := PyProof.Rows.sortedHeap_at (vs := as.map Value.ref) (out := out.toArray) hob
    have IF : Inv X pins σ H1 { s1 with heap := sortedHeap h3 h'.objs.size (as.map Value.ref) out.toArray, toks := tk } := I2.kept (t' := tk) kS
    obtain ⟨F2, H2, I3, g, oth, qt⟩ := takeF (P := fun b o us => ∃ (j : Nat) (x : Str) (v : V), as[j]? = some b ∧ ks[j]? = some (.inr x, v) ∧ us = [.str x, v] ∧ o.dict = none ∧ kxOf h' (.ref b) = x) I1 as F H1 IF sF nd fun b hb => by
      obtain ⟨j, hj⟩ := List.mem_iff_getElem?.mp hb
      obtain ⟨x, v, t, y, f1, f2, f3⟩ := pr j b hj
      have hbl : s1.heap.objs.size ≤ b := by have z : hp2.objs.size < b := hG.above b hb; omega
      refine ⟨hbl, I1.hok.fresh hbl, _, [.str x, v], ⟨j, x, v, hj, f1, rfl, rfl, kxOf_at f3⟩, fun H3 => ⟨kF _ _ (ne0 _ _ f3) (ka _ _ f3), (by rw [sizeLine_eq]; show 2 ≤ 16777216; omega), [Value.str x t, y], .cons ⟨t, rfl⟩ (.cons f2 .nil), ⟨_, kF _ _ (ne0 _ _ f3) (ka _ _ f3), rfl, 0, rfl⟩⟩⟩
    have hSb : s1.heap.objs.size ≤ h'.objs.size := by omega
    have hSn : h'.objs.size ∉ as := fun z => Nat.lt_irrefl _ (hG.there z)
    have n1 : H1 h'.objs.size = none := I1.hok.fresh hSb
    have n2 : H2 h'.objs.size = none := (oth _ hSn).trans n1
    obtain ⟨os, po, eo⟩ := perm_lift Value.ref o2.perm as rfl
    have rv : Vals (os.map V.ref) out := by rw [← eo]; exact vals_refs os
    have I4 := Inv.lay (o := .lst (os.map V.ref)) I3 (I1.fpOk hSb n2) ⟨(by rw [List.length_map, po.length_eq, hl]; omega), out, eF, rv, heF⟩
    have sx : srtS xs = os.map fun a => kxOf h' (.ref a) := by
      have e1 : (os.map fun a => kxOf h' (.ref a)) = out.map (kxOf h') := by rw [← eo, List.map_map]; rfl
      rw [e1]
      refine perm_one str_anti (srtS_sorted xs) ?_ ?_
      · rw [List.pairwise_map]
        exact List.Pairwise.imp (fun h => List.not_lt.mp (of_decide_eq_false h)) o1
      · have z := o2.perm.map (kxOf h')
        rw [mapx] at z
        exact (srtS_perm xs).trans z.symm
    refine ⟨.ref h'.objs.size, _, I4, rfl, q F2 _ _ (g.trans (Grw.beside g.s n2)) ⟨_, rfl, ⟨_, upd_same, ?_⟩, g.s.free n2, n1⟩⟩
    show DatL X.K F2 _ ((srtS xs).map _)
    rw [sx, List.map_map]
    refine datL_refs _ fun a ha => ?_
    obtain ⟨o, us, ⟨j, x, v, j1, j2, rfl, hdn, hx⟩, hFa⟩ := qt a (po.mem_iff.mp ha)
    show Dat X.K F2 (.ref a) (.tuple [.str (kxOf h' (.ref a)), (getKV ds (.inr (kxOf h' (.ref a)))).getD .none])
    obtain ⟨dv, w1, w2⟩ := DatK.at hD nd0 j2
    rw [hx, w1]
    exact .tup ⟨.inl (.inr ⟨o, hFa⟩), .inl ⟨o, _, hFa, hdn⟩⟩ (.cons (.str x) (.cons (w2.mono g.f) .nil))
def skyL (_ : List (D × D)) (xs : List Str) : List D := (srtS xs).map .str
theorem each_strs {K : PySem.W.Frag} {F : Hp} : ∀ {us : List Value} {xs : List Str}, PySem.W.EachIs (fun (u : Value) (x : Str) => ∃ t, u = Value.str x t) us xs -> Vals (xs.map V.str) us ∧ DatL K F (xs.map V.str) (xs.map .str)
  | _, _, .nil => ⟨.nil, .nil⟩
  | _, _, .cons ⟨t, h⟩ r => by
    obtain ⟨h1, h2⟩ := each_strs (K := K) (F := F) r
    exact ⟨.cons ⟨t, h⟩ h1, .cons (.str _) h2⟩
theorem each_at {R : Value -> Str -> Prop} : ∀ {us : List Value} {xs : List Str}, us.length = xs.length -> (∀ (j : Nat) (u : Value), us[j]? = some u -> ∃ x, xs[j]? = some x ∧ R u x) -> PySem.W.EachIs R us xs
  | [], [], _, _ => .nil
  | [], _ :: _, h, _ => by simp at h
  | _ :: _, [], h, _ => by simp at h
  | u :: us, x :: xs, h, f => by
    refine .cons ?_ (each_at (by simpa using h) fun j v hv => by simpa using f (j + 1) v (by simpa using hv))
    obtain ⟨y, e, r⟩ := f 0 u rfl
    simp at e; subst e; exact r
theorem pe_sky (hc : X.calm = true) (hu : X.A.units + 70 < cLine) (hg : Gl X "sorted") (hm : X.mg "sorted" = none) (he : PE X e te) (hbase : attributeBase e "keys" X.env (eval e X.env) = eval e X.env) (hline : (apos.endLine == cpos.line) = true) :
    PE X (.Call (.Name "sorted" p) [.Call (.Attribute e "keys" apos) [] [] cpos] [] pos) (tSit X.K te skyL) := by
  have hs : starEach [.Call (.Attribute e "keys" apos) [] [] cpos] X.env = (false, eval (.Call (.Attribute e "keys" apos) [] [] cpos) X.env) :: starEach [] X.env := noStar_each rfl
  refine ⟨fun pins s σ H Q I hq => ?_⟩
  refine Call_ (ld_blt I hg hm PyProof.Rows.boot_sorted (PyProof.Rows.callWith_builtin1 (PyProof.Rows.args_cons ?_ hs) hs rfl))
  refine wpAny_Call_method (T := "dict") (id := "dict.keys") hbase rfl hline PySem.F.plainAttrs_dict PySem.F.slot_dict_keys PySem.F.type_dict_keys (thn (he.run pins s σ H _ I hq) fun u s1 ⟨x, H1, I1, rx, F, d, ks, ds, xs, ex, sF, hd, hD, hS, q⟩ => ?_)
  subst ex
  obtain rfl : u = Value.ref d := rx
  obtain ⟨hz, hs0, vs, kv, hdo⟩ := I1.hok d _ hd
  obtain ⟨ep, hat⟩ := hdo.dictAt
  have lk : ks.length = vs.length := Paired.length kv
  have ek := strKs_eq hD hS
  have I2 : Inv X pins σ H1 { s1 with heap := s1.heap.push { cls := .type "dict_keys", data := .fields #[.ref d] } } := I1.kept (t' := s1.toks) fun b ob q => Heap.get?_push_of_some _ q
  refine ⟨hdo.typeIs, hdo.mapOf.noDict, ?_⟩
  show wpAny _ _ (callWith cpos (.builtin "dict.keys") [.ref d] [] []) _ X.xe s1
  refine method_meetsIn PySem.F.slot_dict_keys PySem.F.entry_dict_keys rfl (PySem.evalArgs_none ⟨rfl, hdo.typeIs, PySem.F.args_dict_keys_1 _, _, PySem.W.kdl_meets_keys (mixKind X.prog X.w) d hs0, ⟨vs, hdo⟩, ?_⟩)
  refine PyProof.Rows.args_nil ?_
  have hview : PySem.W.KdlKeysView (s1.heap.push { cls := .type "dict_keys", data := .fields #[.ref d] }) s1.heap.objs.size d := ⟨_, Heap.get?_push_size _ rfl, rfl, rfl⟩
  generalize hs2 : s1.heap.push { cls := .type "dict_keys", data := .fields #[.ref d] } = hp2 at I2 hview ⊢
  have hat2 : hp2.DictAt (mixKind X.prog X.w) d vs ep := by rw [← hs2]; exact hat.push _
  have sz2 : hp2.objs.size = s1.heap.objs.size + 1 := by rw [← hs2, PyProof.Rows.size_push']
  have hh : X.A.handled = none := I1.ok.hd hc
  refine Calls.call_function_entry PyProof.Rows.kind_sorted PyProof.Rows.plain_sorted PyProof.Rows.entry_sorted (PyProof.Rows.args_sorted1 _) ?_
  unfold Builtin.«sorted»
  refine wpAny_bind (m := checkCount "sorted" 1 1 _) (wpAny_pure ?_)
  refine wpAny_bind (PySem.W.kdu_collect (s := { s1 with heap := hp2 }) (A := X.A.in1) (PySem.W.kdl_keys (knd := mixKind X.prog X.w) (kvs := vs) (ep := ep)) hh ⟨hview, hat2⟩ (by omega) fun h' tk acc hk hacc => ?_)
  have la : acc.toList.length = vs.length := by rw [Array.length_toList]; exact hacc.1
  refine wpAny_bind (wpAny_newList ?_ (by omega))
  have hk : ∀ b o, hp2.get? b = some o -> h'.get? b = some o := hk
  have sz3 : hp2.objs.size ≤ h'.objs.size := by
    obtain ⟨ov, hov, _⟩ := hview
    have z : s1.heap.objs.size < h'.objs.size := Heap.lt_size (hk _ _ hov)
    omega
  have lx : xs.length = vs.length := by
    have z := congrArg List.length ek
    rw [List.length_map, List.length_map] at z
    omega
  have each : PySem.W.EachIs (fun (u : Value) (x : Str) => ∃ t, u = Value.str x t) acc.toList xs := by
    refine each_at (by omega) fun j u hj => ?_
    obtain ⟨k, y, f1, f2⟩ := hacc.2 j u (by rw [← Array.getElem?_toList]; exact hj)
    obtain ⟨⟨k2, v⟩, g1, g2, g3⟩ := paired_at kv f1
    have e1 : (ks.map (·.1))[j]? = some k2 := by rw [List.getElem?_map, g1]; rfl
    rw [ek, List.getElem?_map] at e1
    cases ex : xs[j]? with
    | none => rw [ex] at e1; cases e1
    | some x =>
      rw [ex] at e1
      have e1 : Sum.inr x = k2 := Option.some.inj e1
      have g2 : k2 = k := g2
      subst e1
      subst g2
      exact ⟨x, rfl, (show RelV (kV (.inr x)) u from relV_key (show keyIs (.inr x) u = true from f2))⟩
  have hob : (h'.push { cls := .type "list", data := .seq acc.toList.toArray }).get? h'.objs.size = some (seqObj "list" acc.toList.toArray 0) := Heap.get?_push_size _ rfl
  have ne0 : ∀ b o, h'.get? b = some o -> b ≠ h'.objs.size := fun b o e => Nat.ne_of_lt (Heap.lt_size e)
  generalize hh3 : h'.push { cls := .type "list", data := .seq acc.toList.toArray } = h3 at hob ⊢
  have ka : ∀ b o, h'.get? b = some o -> h3.get? b = some o := fun b o e => by rw [← hh3]; exact Heap.get?_push_of_some _ e
  refine wpAny_bind (wpAny_holding (PySem.W.list_sort_data (s := { s1 with heap := h3, toks := tk }) (R := fun (u : Value) (x : Str) => ∃ t, u = Value.str x t) (enc := PyData.str) (bs := xs) hob each (each.mono fun u x ⟨t, z⟩ => ⟨[], by subst z; exact .str x t, by simp⟩) (PySem.W.AllAlike.of fun _ _ => by simp [PySem.W.alike]) (PySem.W.Sortable.others fun b => ⟨by simp, fun _ => by simp⟩) (by omega) (fun b _ => by show X.A.units + 1 + 1 + 0 < cLine; omega) fun out o1 o2 => ?_))
  refine wpAny_pure ⟨_, rfl, ?_⟩
  show EP X pins σ Q (.ref h'.objs.size) { s1 with heap := sortedHeap h3 h'.objs.size acc.toList out.toArray, toks := tk }
  have o2 : PySem.W.EachIs (fun (u : Value) (x : Str) => ∃ t, u = Value.str x t) out (srtS xs) := by
    unfold srtS
    have z := PySem.W.dataLe_str (fun x : Str => x)
    rw [← z]
    exact o2
  obtain ⟨rv, rd⟩ := each_strs (K := X.K) (F := F) o2
  have kF : ∀ b o, b ≠ h'.objs.size -> h3.get? b = some o -> (sortedHeap h3 h'.objs.size acc.toList out.toArray).get? b = some o := fun b o hb e => (PyProof.Rows.sortedHeap_old hb (Heap.lt_size e)).trans e
  have kS : ∀ b o, hp2.get? b = some o -> (sortedHeap h3 h'.objs.size acc.toList out.toArray).get? b = some o := fun b o e => kF b o (ne0 _ _ (hk b o e)) (ka _ _ (hk b o e))
  obtain ⟨eF, heF⟩ := PyProof.Rows.sortedHeap_at (vs := acc.toList) (out := out.toArray) hob
  have hSb : s1.heap.objs.size ≤ h'.objs.size := by omega
  have n1 : H1 h'.objs.size = none := I1.hok.fresh hSb
  have IF : Inv X pins σ H1 { s1 with heap := sortedHeap h3 h'.objs.size acc.toList out.toArray, toks := tk } := I2.kept (t' := tk) kS
  have I4 := Inv.lay (o := .lst ((srtS xs).map V.str)) IF (I1.fpOk hSb n1) ⟨(by rw [List.length_map, (srtS_perm xs).length_eq]; omega), out, eF, rv, heF⟩
  exact ⟨.ref h'.objs.size, _, I4, rfl, q F _ _ (Grw.beside sF n1) ⟨_, rfl, ⟨_, upd_same, rd⟩, sF.free n1, n1⟩⟩
end
section
variable {X : Cx} {Γ : Calls} {gl : Str -> Option D} {W : WX} {a : Expr} {ca : CE} {pos cpos apos p : Pos}
theorem base_of {m : Str} (hb : noSuper a = true) : attributeBase a m X.env (eval a X.env) = eval a X.env := by
  cases a with
  | Call f as ks p => cases f with
    | Name id p2 => cases as with
      | nil => cases ks with
        | nil => simp [noSuper] at hb
        | cons _ _ => rfl
      | cons _ _ => cases ks <;> rfl
    | _ => rfl
  | _ => rfl
theorem strKs_noX {ds : List (D × D)} {xs : List Str} (h : strKs ds = some xs) : isX (.dict ds) = false := by
  cases ds with
  | nil => rfl
  | cons p r =>
    obtain ⟨a, b⟩ := p
    cases a <;> first | rfl | (simp [strKs] at h; done)
theorem sit_red {mk : List (D × D) -> List Str -> List D} {f : D -> Option Rv} (hf : ∀ d y, f d = some y -> ∃ ds xs, d = .dict ds ∧ strKs ds = some xs ∧ y = .own (.list (mk ds xs))) {x : Fx} {F H : Hp} {σ : L2.St} {δ : DEnv} {Q : VK} (R : Rel X.K x F σ H δ)
    (pp : PostG X.K x σ W (RV X.K x σ) ((evalE Γ gl ca δ).bind fun r δ1 => rdTo δ1 r f) F Q) : tSit X.K (tE X.K Γ gl W ca) mk σ H Q := by
  refine ⟨x, F, δ, R, pp.bind fun r1 δ1 F1 H1 v R1 s1 rv1 p1 => ?_⟩
  obtain ⟨dd, y, _, hd, e, q⟩ := rdTo_of R1 rv1 p1
  obtain ⟨ds, xs, rfl, hx, rfl⟩ := hf _ _ e
  obtain ⟨b, ks, rfl, h1, t⟩ := hd.dict R1.sub (strKs_noX hx)
  exact ⟨F1, b, ks, ds, xs, rfl, R1.sub, h1, t, hx, fun F' H' w g n => q F' H' w (R1.grw g) g.f (R1.resN n)⟩
theorem snd_sit (hc : X.calm = true) (hg : Gl X "sorted") (hm : X.mg "sorted" = none) (hb : noSuper a = true) (hline : (apos.endLine == cpos.line) = true) (ha : PE X a (tE X.K Γ gl W ca)) :
    PE X (.Call (.Name "sorted" p) [.Call (.Attribute a "items" apos) [] [] cpos] [] pos) (tE X.K Γ gl W (.sit ca)) := by
  refine PE.imp (pe_sit hc hg hm ha (base_of hb) hline) fun σ H Q ⟨x, F, δ, R, pp⟩ => ?_
  unfold evalE at pp
  refine sit_red (fun d y e => ?_) R pp
  cases d with
  | dict ds =>
    obtain ⟨xs, h1, rfl⟩ := map_some (show (strKs ds).map (fun ks => Rv.own (.list (sitL ds ks))) = some y from e)
    exact ⟨ds, xs, rfl, h1, rfl⟩
  | _ => cases e
theorem snd_sky (hc : X.calm = true) (hu : X.A.units + 70 < cLine) (hg : Gl X "sorted") (hm : X.mg "sorted" = none) (hb : noSuper a = true) (hline : (apos.endLine == cpos.line) = true) (ha : PE X a (tE X.K Γ gl W ca)) :
    PE X (.Call (.Name "sorted" p) [.Call (.Attribute a "keys" apos) [] [] cpos] [] pos) (tE X.K Γ gl W (.sky ca)) := by
  refine PE.imp (pe_sky hc hu hg hm ha (base_of hb) hline) fun σ H Q ⟨x, F, δ, R, pp⟩ => ?_
  unfold evalE at pp
  refine sit_red (fun d y e => ?_) R pp
  cases d with
  | dict ds =>
    obtain ⟨xs, h1, rfl⟩ := map_some (show (strKs ds).map (fun ks => Rv.own (.list (skyL ds ks))) = some y from e)
    exact ⟨ds, xs, rfl, h1, rfl⟩
  | _ => cases e
/-! displays -/
inductive PsOk (Γ : Calls) (gl : Str -> Option D) (W : WX) (X : Cx) : List (Option Expr) -> List Expr -> CEs -> List (TE × TE) -> Prop
  | nil : PsOk Γ gl W X [] [] .nil []
  | cons {k v : Expr} {ck cv : CE} {ks : List (Option Expr)} {vs : List Expr} {r : CEs} {trs : List (TE × TE)} : PE X k (tE X.K Γ gl W ck) -> PE X v (tE X.K Γ gl W cv) -> PsOk Γ gl W X ks vs r trs ->
      PsOk Γ gl W X (some k :: ks) (v :: vs) (.cons ck (.cons cv r)) ((tE X.K Γ gl W ck, tE X.K Γ gl W cv) :: trs)
theorem PsOk.pps {ks : List (Option Expr)} {vs : List Expr} {r : CEs} {trs : List (TE × TE)} (h : PsOk Γ gl W X ks vs r trs) : PPs X pos ks vs trs := by
  induction h with
  | nil => exact pps_nil
  | cons h1 h2 _ ih => exact pps_cons h1 h2 ih
/-- pairs as a row -/
def flatP {α : Type} : List (α × α) -> List α
  | [] => []
  | p :: r => p.1 :: p.2 :: flatP r
theorem evalEs_cons {e : CE} {r : CEs} {δ : DEnv} : evalEs Γ gl (.cons e r) δ = (evalE Γ gl e δ).bind fun v δ1 => (esc v δ1).bind fun d δ2 => (evalEs Γ gl r δ2).bind fun ds δ3 => .ok (d :: ds) δ3 := by
  conv => lhs; unfold evalEs
theorem obind_assoc {α β γ : Type} {o : Out α} {f : α -> DEnv -> Out β} {g : β -> DEnv -> Out γ} : (o.bind f).bind g = o.bind fun a δ => (f a δ).bind g := by
  cases o <;> rfl
theorem PsOk.red {K : PySem.W.Frag} (hK : K = X.K) {ks : List (Option Expr)} {vs : List Expr} {r : CEs} {trs : List (TE × TE)} (h : PsOk Γ gl W X ks vs r trs) : ∀ {x : Fx} {F H : Hp} {σ : L2.St} {δ : DEnv} {Q : List (V × V) -> Hp -> Prop}, Rel K x F σ H δ ->
    PostG K x σ W (fun F' _ _ (us : List (V × V)) ds => DatL K F' (flatP us) ds) (evalEs Γ gl r δ) F Q -> tPairs trs σ H Q := by
  subst hK
  induction h with
  | nil =>
    intro x F H σ δ Q R p
    unfold evalEs at p
    exact p F H [] R (Same.refl _) .nil
  | @cons k v ck cv ks vs r trs h1 h2 _ ih =>
    intro x F H σ δ Q R p
    have e0 : evalEs Γ gl (.cons ck (.cons cv r)) δ = (evalE Γ gl ck δ).bind fun v δ1 => (esc v δ1).bind fun d δ2 => (evalE Γ gl cv δ2).bind fun v δ1 => (esc v δ1).bind fun d2 δ2 => (evalEs Γ gl r δ2).bind fun ds δ3 => .ok (d :: d2 :: ds) δ3 := by
      rw [evalEs_cons]
      congr 1
      funext v δ1
      congr 1
      funext d δ2
      rw [evalEs_cons, obind_assoc]
      congr 1
      funext v δ1
      rw [obind_assoc]
      congr 1
      funext d δ2
      rw [obind_assoc]
      rfl
    rw [e0] at p
    refine ⟨x, F, δ, R, p.bind fun r1 δ1 F1 H1 v R1 s1 rv1 p1 => ?_⟩
    cases e1 : esc r1 δ1 with
    | no => rw [e1] at p1; exact p1.elim
    | ex e δ2 => exact absurd e1 esc_nex
    | ok dt δ2 =>
      rw [e1] at p1
      simp only [Out.bind] at p1
      obtain ⟨F2, R2, s2, hd⟩ := R1.esc rv1 e1
      refine ⟨x, F2, δ2, R2, (PostG.base s2 p1).bind fun r3 δ3 F3 H3 w R3 s3 rv3 p3 => ?_⟩
      cases e3 : esc r3 δ3 with
      | no => rw [e3] at p3; exact p3.elim
      | ex e δ4 => exact absurd e3 esc_nex
      | ok dt2 δ4 =>
        rw [e3] at p3
        simp only [Out.bind] at p3
        obtain ⟨F4, R4, s4, hd4⟩ := R3.esc rv3 e3
        refine ih R4 ((PostG.base s4 p3).bind fun ds δ5 F5 H5 us R5 s5 hds p5 => ?_)
        exact p5 F5 H5 ((v, w) :: us) R5 (Same.refl _) (.cons ((hd.mono s3).mono (s4.trans s5)) (.cons (hd4.mono s5) hds))
theorem up_dat {K : PySem.W.Frag} {F : Hp} : ∀ {us : List (V × V)} {ds : List D} {md : List (Key × D)}, DatL K F (flatP us) ds -> pairUp ds = some md -> ∃ kvs : List (Key × V), us = kvs.map (fun kv => (kV kv.1, kv.2)) ∧ DatK K F kvs (mD md)
  | [], ds, md, h, e => by
    cases h
    cases e
    exact ⟨[], rfl, .nil⟩
  | (u, y) :: us, ds, md, h, e => by
    cases h with
    | @cons _ _ a _ h1 h =>
      cases h with
      | @cons _ _ b ds h2 h =>
        unfold pairUp at e
        split at e
        · rename_i k ps0 g1 g2
          cases e
          obtain ⟨kvs, rfl, r⟩ := up_dat h g2
          have ea := keyD_eq g1
          subst ea
          have eu : u = kV k := by
            cases k with
            | inl i => cases h1; rfl
            | inr x => cases h1; rfl
          subst eu
          exact ⟨(k, y) :: kvs, rfl, .cons h2 r⟩
        · cases e
/-- an object that stands beside all, while others are made -/
def Fx.hold (x : Fx) (p : Addr) (o : HO) : Fx := { x with G := upd x.G p o }
section
variable {K : PySem.W.Frag} {x : Fx} {F H : Hp} {σ : L2.St} {δ : DEnv} {p : Addr} {o : HO}
theorem Rel.hold (R : Rel K x F σ H δ) (np : H p = none) : Rel K (x.hold p o) F σ (upd H p o) δ := by
  have nF := R.nF np
  have B := R.beside o np
  refine ⟨B.len, B.sub, same_upd2 R.frm, B.f0, fun a h => ?_, B.slot, fun i c a h1 h2 h3 => ?_, B.sep, B.par, B.inp⟩
  · rcases R.ext a h with z | z
    · exact .inl z
    · refine .inr ?_
      show upd x.G p o a = none
      rw [upd_ne (fun q => by subst q; exact h nF)]; exact z
  · obtain ⟨z1, z2⟩ := R.own i c a h1 h2 h3
    refine ⟨z1, ?_⟩
    show upd x.G p o a = none
    rw [upd_ne]
    · exact z2
    · rintro rfl
      obtain ⟨b, e1, u, e2⟩ := (R.slot i c h1).ownA h2
      rw [h3] at e1; cases e1
      rw [np] at e2; cases e2
theorem Rel.unhold (nG : x.G p = none) (R : Rel K (x.hold p o) F σ H δ) : Rel K x F σ H δ := by
  have up : ∀ a, upd x.G p o a = none -> x.G a = none := fun a h => by
    by_cases z : a = p
    · rw [z]; exact nG
    · rw [upd_ne z] at h; exact h
  exact ⟨R.len, R.sub, (same_upd nG).trans R.frm, R.f0, fun a h => (R.ext a h).elim .inl fun z => .inr (up a z), R.slot, fun i c a h1 h2 h3 => let ⟨z1, z2⟩ := R.own i c a h1 h2 h3; ⟨z1, up a z2⟩, R.sep, R.par, R.inp⟩
theorem Rel.held (nF0 : x.F0 p = none) (R : Rel K (x.hold p o) F σ H δ) : H p = some o ∧ F p = none ∧ ∀ (i : Nat) (c : Cell), δ[i]? = some c -> c.isOwn = true -> σ[i]? ≠ some (some (V.ref p)) := by
  refine ⟨R.frm p o (by show upd x.G p o p = _; exact upd_same), ?_, fun i c h1 h2 h3 => ?_⟩
  · cases z : F p with
    | none => rfl
    | some u =>
      rcases R.ext p (by rw [z]; exact fun q => by cases q) with q | q
      · exact absurd nF0 q
      · have q : upd x.G p o p = none := q
        rw [upd_same] at q; cases q
  · have q : upd x.G p o p = none := (R.own i c p h1 h2 h3).2
    rw [upd_same] at q; cases q
theorem Rel.atp {o : HO} (R : Rel K x F σ H δ) (nF : F p = none) (nG : x.G p = none) (ns : ∀ (i : Nat) (c : Cell), δ[i]? = some c -> c.isOwn = true -> σ[i]? ≠ some (some (V.ref p))) : Rel K x F σ (upd H p o) δ :=
  ⟨R.len, same_updR R.sub nF, same_updR R.frm nG, R.f0, R.ext, fun i c q => (R.slot i c q).mono (Same.refl _) fun a u h1 h2 h3 => (by rw [upd_ne (fun z => ns i c q h1 (by rw [h2, z]))]; exact h3), R.own, R.sep, R.par, R.inp⟩
end
theorem snd_dsp {ks : List (Option Expr)} {vs : List Expr} {r : CEs} {trs : List (TE × TE)} (h : PsOk Γ gl W X ks vs r trs) (hall : ks.all (·.isSome) = true) (hl : ks.length = vs.length) (h15 : ks.length ≤ 15) : PE X (.Dict ks vs pos) (tE X.K Γ gl W (.dsp r)) := by
  by_cases h0 : ks = []
  · subst h0
    cases h
    refine PE.imp pe_dnewK fun σ H Q ⟨x, F, δ, R, pp⟩ => ?_
    unfold evalE at pp
    unfold evalEs at pp
    intro q np
    exact pp F _ _ (R.beside _ np) (Same.refl _) (R.resN (u := .ref q) (r := .own (.dict [])) ⟨q, rfl, ⟨[], upd_same, .nil⟩, R.nF np, np⟩)
  · refine PE.imp (pe_disp h.pps hall hl h0 h15) fun σ H Q ⟨x, F, δ, R, pp⟩ => ?_
    unfold evalE at pp
    intro q np
    have nG := R.nG np
    have nF0 : x.F0 q = none := R.f0.free (R.nF np)
    refine h.red rfl (R.hold (o := .dK []) np) ?_
    cases ev : evalEs Γ gl r δ with
    | no => rw [ev] at pp; exact pp.elim
    | ex e δ1 =>
      rw [ev] at pp
      exact fun F' H' c d R' s' r' => pp F' H' c d (R'.unhold nG) s' r'
    | ok ds δ1 =>
      rw [ev] at pp
      simp only [Out.bind] at pp
      intro F' H' us R' s' hds
      cases eu : pairUp ds with
      | none => rw [eu] at pp; exact pp.elim
      | some md =>
        rw [eu] at pp
        simp only at pp
        split at pp
        · rename_i hz
          obtain ⟨kvs, rfl, hk⟩ := up_dat hds eu
          obtain ⟨c1, c2, c3⟩ := R'.held nF0
          have lk : kvs.length ≤ 15 := by
            have z := hk.len
            rw [List.length_map] at z
            omega
          refine ⟨c1, kvs, rfl, lk, ?_⟩
          have R2 := R'.unhold nG
          refine pp F' _ _ (R2.atp c2 nG c3) s' ⟨q, rfl, ⟨_, upd_same, DatK.merge _ _ hk .nil⟩, c2, nG, c3⟩
        · exact pp.elim
end
end DE

/-! DS5: zip of two tuples, the pairs known. -/
namespace DE
open PySem PySem.Spec PyProof.Rows L2
/-- zip(a, b): the pairs are new tuples, bare -/
def ItzF (K : PySem.W.Frag) (a b : Addr) : It :=
  ⟨fun i H => ∃ (xs ys : List V) (x y : V), SqT K H a xs ∧ SqT K H b ys ∧ xs[i]? = some x ∧ ys[i]? = some y,
    fun i H v H' => ∃ T o x y, v = .ref T ∧ H T = none ∧ o.dict = none ∧ H' = upd H T (.frz o (.tup [x, y])) ∧ (∀ xs, SqT K H a xs -> xs[i]? = some x) ∧ ∀ ys, SqT K H b ys -> ys[i]? = some y,
    fun i H => ∃ xs ys : List V, SqT K H a xs ∧ SqT K H b ys ∧ (xs.length ≤ i ∨ ys.length ≤ i)⟩
theorem zip_five {c z TI TO i1 i2 : Addr} (h : c ∈ [z, TI, TO, i1, i2]) : c = z ∨ c = TI ∨ c = TO ∨ c = i1 ∨ c = i2 := by simpa using h
theorem zip_out {c z TI TO i1 i2 : Addr} (h : c ∉ [z, TI, TO, i1, i2]) : c ≠ z ∧ c ≠ TI ∧ c ≠ TO ∧ c ≠ i1 ∧ c ≠ i2 := by simpa using h
theorem turn_zipF {P : Program} {w : World} {K : PySem.W.Frag} {elts : List Expr} {kk : Nat} {tpos : Pos} {a b z TI TO i1 i2 : Addr} (D : ZipApart z TI TO i1 i2 a b) :
    Turn P w K (.Tuple elts kk tpos) (ItzF K a b) [z, TI, TO, i1, i2] z (fun i h => IsZip h z TI TO .none ∧ IsPair h TI (.ref i1) (.ref i2) ∧ (∃ x y, IsPair h TO x y) ∧ h.IsTupleIter i1 a i ∧ h.IsTupleIter i2 b i) where
  mem := (RZ.turn_zipT (K := K) (P := P) (w := w) (elts := elts) (kk := kk) (tpos := tpos) D).mem
  obj := (RZ.turn_zipT (K := K) (P := P) (w := w) (elts := elts) (kk := kk) (tpos := tpos) D).obj
  keep := (RZ.turn_zipT (K := K) (P := P) (w := w) (elts := elts) (kk := kk) (tpos := tpos) D).keep
  done := (RZ.turn_zipT (K := K) (P := P) (w := w) (elts := elts) (kk := kk) (tpos := tpos) D).done
  self := (RZ.turn_zipT (K := K) (P := P) (w := w) (elts := elts) (kk := kk) (tpos := tpos) D).self
  item := by
    intro X hP hw hK hc i pins s σ H E I hf st hg
    subst hP hw hK
    obtain ⟨hz, hTI, ⟨x0, y0, hTO⟩, h1, h2⟩ := st
    obtain ⟨xs, ys, x, y, hqx, hqy, hx, hy⟩ := hg
    obtain ⟨us, rv, p, _⟩ := I.tuple hqx
    obtain ⟨ws, rv2, p2, _⟩ := I.tuple hqy
    obtain ⟨u, hu, ru⟩ := rv.get hx
    obtain ⟨u2, hu2, ru2⟩ := rv2.get hy
    have hzl : z < s.heap.objs.size := Heap.lt_size hz
    refine RZ.pyNext_zipT_item D hz hTI hTO h1 h2 p p2 (x := u) (y := u2) (by simpa using hu) (by simpa using hu2) fun h' z' TO' h1' h2' hT hsz hk => ⟨_, rfl, wpAny_letOwnedTupleGo_zip (s := { s with heap := h' }) z' fun h'' z'' sb => ?_⟩
    have hT2 : h''.get? s.heap.objs.size = some (tupO [u, u2]) := (sb.2 _ (Nat.ne_of_gt hzl)).trans hT
    have new : ObjOk X.prog X.w (upd H s.heap.objs.size (.frz (tupO [u, u2]) (.tup [x, y]))) h'' s.heap.objs.size (.frz (tupO [u, u2]) (.tup [x, y])) :=
      ⟨hT2, (by show 2 ≤ sizeLine; decide), [u, u2], .cons ru (.cons ru2 .nil), ⟨_, hT2, rfl, _, rfl⟩⟩
    have I1 := I.turnedNew (t' := s.toks) (ch := [z, TI, TO, i1, i2]) (fun c o hb q => let ⟨n1, n2, n3, n4, n5⟩ := zip_out hb; (sb.2 c n1).trans (hk c o n1 n3 n4 n5 q)) hf (Nat.le_refl _) new
    refine ⟨.ref s.heap.objs.size, _, I1, rfl, ⟨_, _, x, y, rfl, I.hok.fresh (Nat.le_refl _), rfl, rfl, fun l hl => (by rw [I.tuple_inj hl hqx]; exact hx), fun l hl => (by rw [I.tuple_inj hl hqy]; exact hy)⟩, ⟨z'', ?_, ⟨u, u2, ?_⟩, ?_, ?_⟩, fun c hcm => ?_⟩
    · exact (sb.2 TI D.TIz).trans (hk _ _ D.TIz D.TITO D.TIi1 D.TIi2 hTI)
    · exact (sb.2 TO D.TOz).trans TO'
    · exact h1'.at fun o q => (sb.2 i1 D.i1z).trans q
    · exact h2'.at fun o q => (sb.2 i2 D.i2z).trans q
    · have hlt : c < s.heap.objs.size := by
        rcases zip_five hcm with q | q | q | q | q <;> rw [q]
        · exact hzl
        · exact Heap.lt_size hTI
        · exact Heap.lt_size hTO
        · obtain ⟨_, e1, _⟩ := h1; exact Heap.lt_size e1
        · obtain ⟨_, e2, _⟩ := h2; exact Heap.lt_size e2
      rw [upd_ne (Nat.ne_of_lt hlt)]
      exact (hf c hcm).1
def iZipF (K : PySem.W.Frag) (ta : TA) : TI := fun σ H R => ta σ H fun vs H1 => ∃ a b xs ys, vs = [.ref a, .ref b] ∧ SqT K H1 a xs ∧ SqT K H1 b ys ∧ R (ItzF K a b) H1
theorem pi_zipF {X : Cx} {e e2 : Expr} {ta : TA} {p pos tpos : Pos} {elts : List Expr} {kk : Nat} (hg : Gl X "zip") (hm : X.mg "zip" = none) (ha : PA X [e, e2] ta)
    (hs : starEach [e, e2] X.env = (false, eval e X.env) :: starEach [e2] X.env) (hpl : (backTo pos (starEach [e2] X.env)).any (·.1) = false) :
    PI X (.Tuple elts kk tpos) (.Call (.Name "zip" p) [e, e2] [] pos) (iZipF X.K ta) := by
  refine ⟨fun pins s σ H R I h => ?_⟩
  refine Call_ (ld_blt I hg hm PyProof.Rows.boot_zip (PyProof.Rows.callWith_type1 (thn (ha.run pos pins s σ H _ I h) fun us s1 ⟨vs, H1, I1, r1, a, b, xs, ys, ex, hqx, hqy, q⟩ => ?_) hs hpl))
  subst ex
  cases r1 with
  | cons r rr =>
    cases rr with
    | cons r' rr =>
      cases rr; cases r; cases r'
      have fresh5 : ∀ c, c ∈ [s1.heap.objs.size + 4, s1.heap.objs.size + 2, s1.heap.objs.size + 3, s1.heap.objs.size, s1.heap.objs.size + 1] -> FpOk X pins H1 c := fun c hcm => by
        have hle : s1.heap.objs.size ≤ c := by
          rcases zip_five hcm with z | z | z | z | z <;> (rw [z]; first | exact Nat.le_add_right _ _ | exact Nat.le_refl _)
        exact I1.fpOk hle (I1.hok.fresh hle)
      obtain ⟨us, rv, p1, _⟩ := I1.tuple hqx
      obtain ⟨ws, rv2, p2, _⟩ := I1.tuple hqy
      obtain ⟨o1, ho1, _⟩ := id p1
      obtain ⟨o2, ho2, _⟩ := id p2
      refine RZ.call_zipT (show s1.heap.IsTuple a us.toArray from p1) (show s1.heap.IsTuple b ws.toArray from p2) fun h' hz hTI hTO h1 h2 hsz hk => wpAny_pyIter_zip hz ?_
      have I2 : Inv X pins σ H1 { s1 with heap := h' } := I1.kept (t' := s1.toks) hk
      exact ⟨_, [_, _, _, _, _], _, _, H1, rfl, I2, turn_zipF (PySem.W.ktu_apart s1.heap.objs.size a b (Heap.lt_size ho1) (Heap.lt_size ho2)), ⟨hz, hTI, ⟨_, _, hTO⟩, h1, h2⟩, fresh5, q⟩
end DE

/-! DS7: set(xs) of keys carried by value, each once; sorted(set(texts)). -/
namespace DE
open PySem PySem.Spec PyProof.Rows L2
theorem addL_nodup {K : Type} [DecidableEq K] {L : List K} (k : K) (h : L.Nodup) : (addL L k).Nodup := by
  unfold addL
  split
  · exact h
  · rename_i z; exact List.nodup_cons.mpr ⟨z, h⟩
theorem addL_len {K : Type} [DecidableEq K] (L : List K) (k : K) : (addL L k).length ≤ L.length + 1 := by
  unfold addL
  split
  · omega
  · simp
theorem mem_addL {K : Type} [DecidableEq K] {L : List K} {k x : K} : x ∈ addL L k ↔ x ∈ L ∨ x = k := by
  unfold addL
  split
  · rename_i h
    exact ⟨.inl, fun z => z.elim id fun e => by rw [e]; exact h⟩
  · rw [List.mem_cons]; exact Or.comm
theorem each_perm {α β : Type} {R : α -> β -> Prop} {xs ys : List α} (p : ys.Perm xs) : ∀ {ks : List β}, PySem.W.EachIs R xs ks -> ∃ ks', PySem.W.EachIs R ys ks' ∧ ks'.Perm ks := by
  induction p with
  | nil => intro ks h; exact ⟨ks, h, List.Perm.refl _⟩
  | cons x _ ih =>
    intro ks h
    cases h with
    | cons r t =>
      obtain ⟨ks', h1, h2⟩ := ih t
      exact ⟨_ :: ks', .cons r h1, h2.cons _⟩
  | swap x y l =>
    intro ks h
    cases h with
    | cons r t =>
      cases t with
      | cons r2 t2 => exact ⟨_ :: _ :: _, .cons r2 (.cons r t2), List.Perm.swap ..⟩
  | trans _ _ ih1 ih2 =>
    intro ks h
    obtain ⟨k1, a1, b1⟩ := ih2 h
    obtain ⟨k2, a2, b2⟩ := ih1 a1
    exact ⟨k2, a2, b2.trans b1⟩
theorem each_mem {α β : Type} {R : α -> β -> Prop} {xs : List α} {ks : List β} (h : PySem.W.EachIs R xs ks) : (∀ x ∈ xs, ∃ k ∈ ks, R x k) ∧ ∀ k ∈ ks, ∃ x ∈ xs, R x k := by
  induction h with
  | nil => exact ⟨fun _ z => (by cases z), fun _ z => (by cases z)⟩
  | cons r _ ih =>
    refine ⟨fun x z => ?_, fun k z => ?_⟩
    · rcases List.mem_cons.mp z with rfl | z
      · exact ⟨_, List.mem_cons_self .., r⟩
      · obtain ⟨k, h1, h2⟩ := ih.1 x z
        exact ⟨k, List.mem_cons_of_mem _ h1, h2⟩
    · rcases List.mem_cons.mp z with rfl | z
      · exact ⟨_, List.mem_cons_self .., r⟩
      · obtain ⟨x, h1, h2⟩ := ih.2 k z
        exact ⟨x, List.mem_cons_of_mem _ h1, h2⟩
theorem each_app {α β : Type} {R : α -> β -> Prop} {x : α} {k : β} (r : R x k) {xs : List α} {ks : List β} (h : PySem.W.EachIs R xs ks) : PySem.W.EachIs R (xs ++ [x]) (ks ++ [k]) := by
  induction h with
  | nil => exact .cons r .nil
  | cons r2 _ ih => exact .cons r2 ih
theorem each_len {α β : Type} {R : α -> β -> Prop} {xs : List α} {ks : List β} (h : PySem.W.EachIs R xs ks) : xs.length = ks.length := by
  induction h with
  | nil => rfl
  | cons _ _ ih => rw [List.length_cons, List.length_cons, ih]
section
variable {P : Program} {w : World} {K : Type} [DecidableEq K] {knd : KeyKind P w K}
/-- a set whose members are the keys L; its table can be walked -/
def SetG (knd : KeyKind P w K) (h : Heap) (a : Addr) (L : List K) : Prop :=
  ∃ o es ep t, h.get? a = some o ∧ o.ExactSet ∧ o.data = .set es ep t ∧ ElemsOf knd es.toList ∧ (∃ ks, PySem.W.EachIs (fun (e : Int × Value) k => knd.is k e.2 = true) es.toList ks ∧ ks.Perm L) ∧ L.Nodup ∧
    es.size < scanBound ∧ t.fits es.size = true ∧ Ris t.place.toList ∧ (w.params.followText "set-order" = true ∨ t.led = true)
theorem SetG.at {h h' : Heap} {a : Addr} {L : List K} (R : SetG knd h a L) (k : ∀ o, h.get? a = some o -> h'.get? a = some o) : SetG knd h' a L :=
  let ⟨o, es, ep, t, ho, r⟩ := R; ⟨o, es, ep, t, k o ho, r⟩
variable {A : Around} {E : Value -> Shared -> Prop} {s : Shared} {a : Addr} {L : List K}
theorem setG_tail {g : Bool -> Sem Unit} (hg : ∀ (b : Bool) (s1 : Shared) (Q1 : Unit -> Shared -> Prop), Q1 () s1 -> wpAny (model P w) A (g b) Q1 E s1)
    {ob : Obj} {es0 : Array (Int × Value)} {ep0 : Nat} {t0 : SetTable} (h1 : s.heap.get? a = some ob) (h2 : ob.ExactSet) (h3 : ob.data = .set es0 ep0 t0)
    {es : Array (Int × Value)} {t : SetTable} {ks : List K} (h4 : ElemsOf knd es.toList) (h5 : PySem.W.EachIs (fun (e : Int × Value) k => knd.is k e.2 = true) es.toList ks) (h6 : ks.Perm L) (h7 : L.Nodup)
    (h8 : es.size < scanBound) (h9 : t.fits es.size = true) (h10 : Ris t.place.toList) (h11 : w.params.followText "set-order" = true ∨ t.led = true) {dm : Bool} {R : Option Bool -> Shared -> Prop}
    (hR : ∀ h', Heap.SameBut a s.heap h' -> SetG knd h' a L -> R (some true) { s with heap := h' }) :
    wpAny (model P w) A (do
        storeSet a es t
        if (!dm && t.tooFull) = true then do
            g (relayAll t es (SetTable.grown es.size)).2.2
            storeSet a (relayAll t es (SetTable.grown es.size)).1 (relayAll t es (SetTable.grown es.size)).2.1
            pure (some true)
          else pure (some true)) R E s := by
  have b1 := Heap.SameBut.update s.heap a (Obj.putSet es t)
  have o1 := store_at (es' := es) (t' := t) h1 h3
  refine wpAny_bind (wpAny_storeSet_of h1 h3 ?_ (fits_of_scanBound h8))
  by_cases c : (!dm && t.tooFull) = true
  · rw [if_pos c]
    have q1 := relayAll_perm t es (SetTable.grown es.size)
    have q2 := relayAll_fits t es (SetTable.grown es.size)
    have q3 := relayAll_ris t es (SetTable.grown es.size)
    have q4 := relayAll_led t es (SetTable.grown es.size)
    generalize relayAll t es (SetTable.grown es.size) = Y at q1 q2 q3 q4 ⊢
    obtain ⟨es2, t2, b⟩ := Y
    have z : es2.size = es.size := by rw [← Array.length_toList, q1.length_eq, Array.length_toList]
    have z2 : es2.size < scanBound := z ▸ h8
    refine wpAny_bind (hg _ _ _ (wpAny_bind (wpAny_storeSet_of o1 rfl ?_ (fits_of_scanBound z2))))
    obtain ⟨ks2, r1, r2⟩ := each_perm q1 h5
    exact wpAny_pure (hR _ (b1.trans (Heap.SameBut.update _ a _)) ⟨_, es2, _, t2, store_at (es' := es2) (t' := t2) o1 rfl, h2, rfl, fun e he => h4 e (q1.mem_iff.mp he), ⟨ks2, r1, r2.trans h6⟩, h7, z2, q2, q3, h11.imp id fun y => by rw [q4]; exact y⟩)
  · rw [if_neg c]
    exact wpAny_pure (hR _ b1 ⟨_, es, _, t, o1, h2, rfl, h4, ⟨ks, h5, h6⟩, h7, h8, h9, h10, h11⟩)
theorem setG_add {k : K} {key : Value} {Q : Bool -> Shared -> Prop} (R : SetG knd s.heap a L) (hk : knd.is k key = true) (hsc : key.scannable = true) (room : L.length + 1 < scanBound)
    (hQ : ∀ (b : Bool) h', Heap.SameBut a s.heap h' -> SetG knd h' a (addL L k) -> Q b { s with heap := h' }) : wpAny (model P w) A (setAddHashed a key (knd.hash k)) Q E s := by
  obtain ⟨o, es, ep, t, ho, hx, hd, hel, ⟨ks, hks, hpm⟩, nd, hb, hf, hr, hl⟩ := R
  unfold setAddHashed setAddHashedIn
  refine wpAny_holding (wpAny_bind (wpAny_setState_of ho hd hf ?_))
  dsimp only
  rw [byScan_of hsc hb hel]
  simp only [↓reduceIte]
  unfold setAddByScan
  refine wpAny_bind (wpAny_bind (wpAny_rule (wpAny_bind (wpAny_setScan_of hk ho hd hf hel ?_))))
  have hwk : ∀ (b : Bool) {s1 : Shared} {Q1 : Unit -> Shared -> Prop}, Q1 () s1 -> wpAny (model P w) A (match b with | true => rule "set.scan.the-table-gave-way" | false => pure ()) Q1 E s1 := fun b s1 Q1 q => by
    cases b
    · exact wpAny_pure q
    · exact wpAny_rule q
  cases hfi : List.findIdx? (fun e => knd.is k e.2) es.toList with
  | some j =>
    dsimp only
    obtain ⟨hj, pj, _⟩ := List.findIdx?_eq_some_iff_getElem.mp hfi
    obtain ⟨k2, m2, r2⟩ := (each_mem hks).1 _ (List.getElem_mem hj)
    have ek : k2 = k := knd.inj _ _ _ r2 pj
    have hin : k ∈ L := hpm.mem_iff.mp (ek ▸ m2)
    have q := hQ false s.heap (Heap.SameBut.refl a s.heap) (by
      unfold addL
      rw [if_pos hin]
      exact ⟨o, es, ep, t, ho, hx, hd, hel, ⟨ks, hks, hpm⟩, nd, hb, hf, hr, hl⟩)
    exact wpAny_pure (wpAny_pure q)
  | none =>
    dsimp only
    have hni : k ∉ L := fun z => by
      obtain ⟨e, he, q⟩ := (each_mem hks).2 k (hpm.mem_iff.mpr z)
      have c := List.findIdx?_eq_none_iff.mp hfi e he
      rw [q] at c; cases c
    have ea : addL L k = k :: L := by unfold addL; rw [if_neg hni]
    have p1 := layNew_perm t es (knd.hash k) key
    have p2 := layNew_fits t es (knd.hash k) key
    have p3 := layNew_ris t es (knd.hash k) key hr
    have p4 := layNew_led t es (knd.hash k) key
    generalize layNew t es (knd.hash k) key = Y at p1 p2 p3 p4 ⊢
    obtain ⟨es1, t1, dm, gv⟩ := Y
    dsimp only at p1 p2 p3 p4 ⊢
    rw [Array.toList_push] at p1
    obtain ⟨ks1, r1, r2⟩ := each_perm p1 (each_app (R := fun (e : Int × Value) k => knd.is k e.2 = true) (x := (knd.hash k, key)) (k := k) hk hks)
    have r3 : ks1.Perm (addL L k) := by
      rw [ea]
      exact r2.trans ((List.perm_append_singleton _ _).trans (hpm.cons _))
    have el1 : ElemsOf knd es1.toList := fun e he => by
      rcases List.mem_append.mp (p1.mem_iff.mp he) with z | z
      · exact hel e z
      · rw [List.mem_singleton.mp z]; exact ⟨⟨k, hk, rfl⟩, hsc⟩
    have hlen : es1.size = L.length + 1 := by
      have z1 := each_len r1
      have z2 := r3.length_eq
      rw [ea, List.length_cons] at z2
      rw [Array.length_toList] at z1
      omega
    have hb1 : es1.size < scanBound := by omega
    have hl1 : w.params.followText "set-order" = true ∨ t1.led = true := hl.imp id fun z => by rw [p4]; exact z
    have nd1 := addL_nodup k nd
    refine wpAny_bind (hwk _ ?_)
    split
    · refine wpAny_bind ?_
      rw [hashByValue_scannable 8 hsc]
      refine wpAny_pure (setG_tail (fun b s1 Q1 q => ?_) ho hx hd el1 r1 r3 nd1 hb1 ?_ ?_ ?_ fun h' sb r => ?_)
      · cases b
        · exact wpAny_pure q
        · exact wpAny_rule q
      · first | exact SetTable.fits_plain_off p2 | (split <;> first | exact p2 | exact SetTable.fits_plain_off p2) | exact p2
      · first | exact p3 | (split <;> exact p3)
      · first | exact hl1 | (split <;> exact hl1)
      · dsimp only; exact wpAny_pure (hQ _ h' sb r)
    · refine wpAny_bind (wpAny_pure ?_)
      simp only [↓reduceIte]
      refine setG_tail (fun b s1 Q1 q => ?_) ho hx hd el1 r1 r3 nd1 hb1 p2 p3 hl1 fun h' sb r => ?_
      · cases b
        · exact wpAny_pure q
        · exact wpAny_rule q
      · dsimp only; exact wpAny_pure (hQ _ h' sb r)
/-- the walk that fills it -/
theorem setG_fill {I : Addr} {fp wr : List Addr} {G : Array GenState -> Array GenState -> Prop} {n : Nat} {Pv : Nat -> Value -> Prop} {St : Nat -> Shared -> Prop} {R : Result -> Shared -> Prop} (W : WalksS P w A.in1 I fp wr G n Pv St) (S : Addr) (hS : S ∉ fp)
    (xs : List K) (hn : n = xs.length) (hz : xs.length + 1 < scanBound) (hv : ∀ i v, Pv i v -> ∃ k, xs[i]? = some k ∧ knd.is k v = true ∧ v.scannable = true) :
    ∀ (m i : Nat) (s : Shared), n - i = m -> i ≤ n -> St i s -> SetG knd s.heap S ((xs.take i).foldl addL []) -> ((xs.take i).foldl addL []).length ≤ i ->
      (∀ s', Moved (S :: wr) G s s' -> SetG knd s'.heap S (dedL xs) -> R (.ok (.ret .none)) s') -> codeAny (model P w) A (.builtin "set.update.loop" ⟨[.ref S, .ref I], []⟩) R s := by
  have nw : S ∉ wr := fun z => hS (W.sub _ z)
  have up : ∀ b ∈ wr, b ∈ S :: wr := fun b z => List.mem_cons_of_mem _ z
  intro m
  induction m with
  | zero =>
    intro i s e1 e2 st g gl hR
    obtain rfl : i = n := by omega
    refine codeAny_builtin F.entry_set_update_loop ?_
    rw [Around.under_plainId F.plain_set_update_loop _]
    show wpAny _ A.in1 (pyNext (.ref I) >>= fun _ => _) _ _ s
    refine wpAny_bind (W.done s _ _ st fun s2 mv => wpAny_pure (hR s2 (mv.mono up) ?_))
    rw [List.take_of_length_le (by omega)] at g
    exact g.at fun o z => mv.heap S o nw z
  | succ m ih =>
    intro i s e1 e2 st g gl hR
    have lt : i < n := by omega
    refine codeAny_builtin F.entry_set_update_loop ?_
    rw [Around.under_plainId F.plain_set_update_loop _]
    show wpAny _ A.in1 (pyNext (.ref I) >>= fun _ => _) _ _ s
    refine wpAny_bind (W.item i s _ _ lt st fun v s2 pv st2 mv => ?_)
    obtain ⟨k, ek, hk, hsc⟩ := hv i v pv
    have g2 : SetG knd s2.heap S _ := g.at fun o z => mv.heap S o nw z
    show wpAny _ A.in1 (holding [v] (setAdd S v) >>= fun _ => _) _ _ s2
    refine wpAny_bind (wpAny_holding ?_)
    unfold setAdd
    refine wpAny_holding (wpAny_bind (knd.pyHash hk ?_))
    refine setG_add (s := { s2 with toks := s2.toks + 1 }) g2 hk hsc (by omega) fun b h' sb g3 => ?_
    have et : (xs.take (i + 1)).foldl addL [] = addL ((xs.take i).foldl addL []) k := by
      rw [List.take_add_one, ek]
      simp [List.foldl_append]
    have gl3 := addL_len ((xs.take i).foldl addL []) k
    refine wpAny_pure ⟨plainId_quiet F.plain_set_update_loop _, ih (i + 1) { s2 with heap := h', toks := s2.toks + 1 } (by omega) lt (W.frame _ s2 _ _ st2 (Nat.le_succ _) fun b hb o z => ?_) (by rw [et]; exact g3) (by rw [et]; omega) fun s3 mv3 g4 => ?_⟩
    · rw [sb.2 b fun y : b = S => hS (by rw [← y]; exact hb)]; exact z
    · refine hR s3 (Moved.trans W.gtrans ((mv.mono up).then_heap (Nat.le_succ _) fun b o hb z => ?_) mv3) g4
      rw [sb.2 b fun y : b = S => hb (by rw [y]; exact List.mem_cons_self)]; exact z

def bareSet (w : World) : Obj := { cls := .type "set", dict := none, data := .set #[] 0 (.fresh 0 0 (!w.params.followText "set-order")) }
theorem setG_new {h : Heap} {a : Addr} (ho : h.get? a = some (bareSet w)) : SetG knd h a [] :=
  ⟨_, #[], 0, _, ho, ⟨rfl, rfl, rfl⟩, rfl, (fun e z => by simp at z), ⟨[], .nil, List.Perm.refl _⟩, List.nodup_nil, (by decide), (by rfl), List.Pairwise.nil, by
    show _ ∨ (!w.params.followText "set-order") = true
    cases w.params.followText "set-order"
    · exact .inr rfl
    · exact .inl rfl⟩
/-- set(l), l a list -/
theorem call_setG {l : Addr} {its : Array Value} (xs : List K) {Q : Value -> Shared -> Prop} (hh : A.handled = none) (hl : s.heap.IsList l its) (hn : its.size = xs.length) (hz : xs.length + 1 < scanBound)
    (hv : ∀ (i : Nat) (v : Value), its[i]? = some v -> ∃ k, xs[i]? = some k ∧ knd.is k v = true ∧ v.scannable = true)
    (h : ∀ (h' : Heap) (tk : Nat), SetG knd h' s.heap.objs.size (dedL xs) -> (∀ b o, s.heap.get? b = some o -> h'.get? b = some o) -> Q (.ref s.heap.objs.size) { s with heap := h', toks := tk }) :
    wpAny (model P w) A (call (.type "set") [.ref l]) Q E s := by
  obtain ⟨cc, tl, hmro⟩ := F.called_set.mro
  have u1 := F.called_set.made
  have u2 := F.called_set.sub
  have u3 := F.called_set.notType
  have u4 := F.called_set.canCreate
  have u5 := F.typeCall_set_1 (.ref l)
  refine wpAny_call (codeAny_of_tree ?_)
  show wpAny _ _ (callAny (.type "set") ⟨[.ref l], []⟩) _ _ _
  refine wpAny_pure ⟨Code.quiet_builtin _ (by decide +kernel), codeAny_builtin F.entry_type_call ?_⟩
  rw [Around.under_plain (weight_type_call_type "set" [.ref l] []) rfl]
  repeat (any_goals (first | assumption | wp_step))
  refine codeAny_mono (code_set_led1 (.ref l) (E := E) (Q₁ := fun ob s1 => ob = .ref s.heap.objs.size ∧ s1 = { s with heap := s.heap.push (bareSet w) }) ⟨rfl, rfl⟩) fun r s1 q1 => ?_
  cases r with
  | error e => exact q1
  | ok f1 =>
    cases f1 with
    | next => exact q1.elim
    | brk => exact q1.elim
    | cont => exact q1.elim
    | ret ob =>
      obtain ⟨rfl, rfl⟩ := q1
      have o1 : (s.heap.push (bareSet w)).get? s.heap.objs.size = some (bareSet w) := Heap.get?_push_size _ rfl
      have t1 : Shared.TypeIs { s with heap := s.heap.push (bareSet w) } (.ref s.heap.objs.size) "set" := ⟨_, o1, rfl⟩
      have u6 := F.called_set.init.lookup
      have u7 := F.called_set.init.bind (.ref s.heap.objs.size)
      repeat (any_goals (first | assumption | wp_step))
      refine codeAny_mono (codeAny_call_builtin (R := wants (fun r s2 => r = .none ∧ ∃ h' tk, s2 = { s with heap := h', toks := tk } ∧ SetG knd h' s.heap.objs.size (dedL xs) ∧ (∀ b o, s.heap.get? b = some o -> h'.get? b = some o)) E) F.called_set.init.plain F.entry_set_init (check_set_init_1 t1 ?_)) fun r2 s2 q2 => ?_
      · obtain ⟨ol, o2, c2, n2, d2⟩ := hl
        obtain ⟨c3, dd, dt, sl⟩ := ol
        simp only at c2 d2
        subst c2; subst d2
        have o3 : (s.heap.push (bareSet w)).get? l = some { cls := .type "list", dict := dd, data := .seq its n2, slots := sl } := Heap.get?_push_of_some _ o2
        have y1 := F.sub_list_set
        have y2 := F.sub_list_frozenset
        have y3 : (Value.type "list" == Value.type "dict") = false := by decide
        have l1 : (s.heap.push (bareSet w)).IsList l its := ⟨_, o3, rfl, n2, rfl⟩
        unfold Builtin.«set.__init__» noKeywords Builtin.Frozenset.updateFrom
        generalize hPI : pyIter = PI
        wp_walk
        subst hPI
        refine wpAny_pyIter_list l1 (wpAny_bind (wpAny_runValue ?_))
        have lt : l < s.heap.objs.size := Heap.lt_size o2
        have z1 : (s.heap.push (bareSet w)).objs.size = s.heap.objs.size + 1 := Heap.size_push ..
        have nI : l ≠ (s.heap.push (bareSet w)).objs.size := by rw [z1]; exact Nat.ne_of_lt (Nat.lt_succ_of_lt lt)
        have nS : s.heap.objs.size ∉ [(s.heap.push (bareSet w)).objs.size, l] := by
          simp only [List.mem_cons, List.not_mem_nil, or_false, not_or]
          exact ⟨by rw [z1]; exact Nat.ne_of_lt (Nat.lt_succ_self _), Nat.ne_of_gt lt⟩
        have hh3 : A.in1.in1.in1.handled = none := by simp [hh]
        refine setG_fill (knd := knd) ((Walks.list hh3 _ l nI its).toS) s.heap.objs.size nS xs hn hz hv (its.size - 0) 0 _ (by omega) (Nat.zero_le _) ⟨⟨_, Heap.get?_push_size _ rfl, rfl, rfl⟩, l1.push _⟩ (setG_new (Heap.get?_push_of_some _ o1)) (Nat.zero_le _) fun s3 mv g => ?_
        obtain ⟨h3, g3, d3, k3, os3⟩ := s3
        obtain rfl : g3 = s.gens := mv.gens
        obtain rfl : d3 = s.drawn := mv.drawn
        obtain rfl : os3 = s.os := mv.os
        show wpAny _ _ _ _ _ _
        refine wpAny_pure ?_
        show wpAny _ _ (ret Value.none) _ _ _
        refine wpAny_pure ⟨rfl, h3, k3, rfl, g, fun b o e => ?_⟩
        have lb : b < s.heap.objs.size := Heap.lt_size e
        refine mv.heap b o ?_ (Heap.get?_push_of_some _ (Heap.get?_push_of_some _ e))
        simp only [List.mem_cons, List.not_mem_nil, or_false, not_or]
        exact ⟨Nat.ne_of_lt lb, by rw [z1]; exact Nat.ne_of_lt (Nat.lt_succ_of_lt lb)⟩
      · cases r2 with
        | error e => exact q2
        | ok f2 =>
          cases f2 with
          | next => exact q2.elim
          | brk => exact q2.elim
          | cont => exact q2.elim
          | ret r =>
            obtain ⟨rfl, h', tk, rfl, g, k2⟩ := q2
            repeat (any_goals (first | assumption | wp_step))
            exact h _ _ g k2
end
end DE

/-! DS8: sorted(set(texts)), as an expression. -/
namespace DE
open PySem PySem.Spec PyProof.Rows L2
/-! ### over the abstract heap -/
def SetGO (X : Cx) (p : Addr) (L : List Str) : HO := .ext fun h => SetG (strKind X.prog X.w) h p L
section
variable {X : Cx}
theorem cr_setG (hc : X.calm = true) : CallR X (.type "set") (fun vs H Q => ∃ (l : Addr) (xs : List Str), vs = [.ref l] ∧ SqL X.K H l (xs.map V.str) ∧ xs.length ≤ 1000 ∧ ∀ p, H p = none -> Q (.ref p) (upd H p (SetGO X p (dedL xs)))) := by
  intro pins s σ H vs us Q I r ⟨l, xs, ev, hs, hz, q⟩
  subst ev
  rw [Vals.ref1 r]
  obtain ⟨its, rv, hl, _⟩ := I.list hs
  have hlen : its.length = xs.length := by rw [← rv.length, List.length_map]
  refine call_setG (knd := strKind X.prog X.w) xs (I.ok.hd hc) hl.isList (by rw [List.size_toArray]; exact hlen) (by unfold scanBound; omega) (fun i v e => ?_) fun h' tk g k => ?_
  · have e : its[i]? = some v := by simpa using e
    have hi : i < xs.length := by rw [← hlen]; exact (List.getElem?_eq_some_iff.mp e).1
    obtain ⟨u, e2, t, rfl⟩ := rv.get (i := i) (x := .str xs[i]) (by rw [List.getElem?_map, List.getElem?_eq_getElem hi]; rfl)
    rw [e] at e2
    cases e2
    exact ⟨xs[i], List.getElem?_eq_getElem hi, strKind_is _ _ _ _, rfl⟩
  · obtain ⟨o, es, ep, t, ho, _⟩ := id g
    have J := I.laid (a := s.heap.objs.size) (o := SetGO X s.heap.objs.size (dedL xs)) (h' := h') (t' := tk) k (Nat.le_refl _) ⟨g, ⟨o, ho⟩, fun h1 h2 z kp => z.at kp⟩
    exact ⟨.ref s.heap.objs.size, _, J, rfl, q _ (I.hok.fresh (Nat.le_refl _))⟩
theorem srtS_one {xs ys : List Str} (p : xs.Perm ys) : srtS xs = srtS ys :=
  perm_one (fun a b h1 h2 => str_anti a b h1 h2) (srtS_sorted xs) (srtS_sorted ys) ((srtS_perm xs).trans (p.trans (srtS_perm ys).symm))
theorem each_at2 {α β : Type} {R : α -> β -> Prop} {xs : List α} {ks : List β} (h : PySem.W.EachIs R xs ks) {γ : Type} {f : α -> γ} {R2 : γ -> β -> Prop} (hf : ∀ x k, R x k -> R2 (f x) k) : PySem.W.EachIs R2 (xs.map f) ks := by
  induction h with
  | nil => exact .nil
  | cons r _ ih => exact .cons (hf _ _ r) ih
theorem cr_sortG (hc : X.calm = true) (hu : X.A.units + 70 < cLine) : CallR X (.builtin "sorted") (fun vs H Q => ∃ (p : Addr) (L : List Str), vs = [.ref p] ∧ H p = some (SetGO X p L) ∧ L.length ≤ 1000 ∧ ∀ q, H q = none -> Q (.ref q) (upd H q (.lst ((srtS L).map V.str)))) := by
  intro pins s σ H vs us Q I r ⟨p, L, ev, hp, hz, q⟩
  subst ev
  rw [Vals.ref1 r]
  obtain ⟨⟨o, es, ep, t, ho, hx, hd, hel, ⟨ks, hks, hpm⟩, nd, hb, hf, hr, hl⟩, _⟩ := I.hok p _ hp
  have hh : X.A.handled = none := I.ok.hd hc
  refine Calls.call_function_entry PyProof.Rows.kind_sorted PyProof.Rows.plain_sorted PyProof.Rows.entry_sorted (PyProof.Rows.args_sorted1 _) ?_
  unfold Builtin.«sorted»
  refine wpAny_bind (m := checkCount "sorted" 1 1 _) (wpAny_pure ?_)
  refine wpAny_bind (collect_set (A := X.A.in1) hh ⟨o, ho, hx.1, hd⟩ hf hb hr hl fun s1 out k1 hsz g1 o1 pm => ?_)
  have each0 : PySem.W.EachIs (fun (u : Value) (x : Str) => ∃ t, u = Value.str x t) (es.toList.map (·.2)) ks := each_at2 hks fun e k z => Value.isStrOf_shape z
  obtain ⟨ts, each, hp2⟩ := each_perm pm each0
  have lo : out.length = ts.length := each_len each
  have lt : ts.length = L.length := (hp2.trans hpm).length_eq
  refine wpAny_bind (wpAny_newList ?_ (by rw [lo, lt, sizeLine_eq]; omega))
  have I1 : Inv X pins σ H s1 := I.call' (ch := []) o1 (Un.kept k1) (I.hok.kept k1) (by rw [g1]; exact I.bare) (fun _ z => (by cases z))
  have hob : (s1.heap.push { cls := .type "list", data := .seq out.toArray }).get? s1.heap.objs.size = some (seqObj "list" out.toArray 0) := Heap.get?_push_size _ rfl
  have ne0 : ∀ b o, s1.heap.get? b = some o -> b ≠ s1.heap.objs.size := fun b o e => Nat.ne_of_lt (Heap.lt_size e)
  generalize hh3 : s1.heap.push { cls := .type "list", data := .seq out.toArray } = h3 at hob ⊢
  have ka : ∀ b o, s1.heap.get? b = some o -> h3.get? b = some o := fun b o e => by rw [← hh3]; exact Heap.get?_push_of_some _ e
  refine wpAny_bind (wpAny_holding (PySem.W.list_sort_data (s := { s1 with heap := h3 }) (R := fun (u : Value) (x : Str) => ∃ t, u = Value.str x t) (enc := PyData.str) (bs := ts) hob each (each.mono fun u x ⟨t, z⟩ => ⟨[], by subst z; exact .str x t, by simp⟩) (PySem.W.AllAlike.of fun _ _ => by simp [PySem.W.alike]) (PySem.W.Sortable.others fun b => ⟨by simp, fun _ => by simp⟩) (by rw [lt, sizeLine_eq]; omega) (fun b _ => by show X.A.units + 1 + 1 + 0 < cLine; omega) fun out2 e1 e2 => ?_))
  refine wpAny_pure ⟨_, rfl, ?_⟩
  show EP X pins σ Q (.ref s1.heap.objs.size) { s1 with heap := sortedHeap h3 s1.heap.objs.size out out2.toArray }
  have e3 : PySem.W.EachIs (fun (u : Value) (x : Str) => ∃ t, u = Value.str x t) out2 (srtS L) := by
    rw [srtS_one (hp2.trans hpm).symm]
    unfold srtS
    rw [← PySem.W.dataLe_str (fun x : Str => x)]
    exact e2
  obtain ⟨rv, _⟩ := each_strs (K := X.K) (F := H) e3
  have kF : ∀ b o, b ≠ s1.heap.objs.size -> h3.get? b = some o -> (sortedHeap h3 s1.heap.objs.size out out2.toArray).get? b = some o := fun b o hb e => (PyProof.Rows.sortedHeap_old hb (Heap.lt_size e)).trans e
  obtain ⟨eF, heF⟩ := PyProof.Rows.sortedHeap_at (vs := out) (out := out2.toArray) hob
  have n1 : H s1.heap.objs.size = none := I1.hok.fresh (Nat.le_refl _)
  have IF : Inv X pins σ H { s1 with heap := sortedHeap h3 s1.heap.objs.size out out2.toArray } := I1.kept (t' := s1.toks) fun b o e => kF b o (ne0 b o e) (ka b o e)
  have I4 := Inv.lay (o := .lst ((srtS L).map V.str)) IF (I1.fpOk (Nat.le_refl _) n1) ⟨(by rw [List.length_map, (srtS_perm L).length_eq, sizeLine_eq]; omega), out2, eF, rv, heF⟩
  exact ⟨.ref s1.heap.objs.size, _, I4, rfl, q _ n1⟩
end
section
variable {X : Cx} {Γ : Calls} {gl : Str -> Option D} {W : WX} {a : Expr} {ca : CE} {pos pos2 p p2 : Pos}
theorem txts_eq : ∀ {ds : List D} {xs : List Str}, txtsD ds = some xs -> ds = xs.map .str
  | [], xs, h => by simp only [txtsD] at h; cases h; rfl
  | d :: r, xs, h => by
    cases d with
    | str x =>
      simp only [txtsD] at h
      cases q : txtsD r with
      | none => rw [q] at h; cases h
      | some ys => rw [q] at h; cases h; rw [txts_eq q]; rfl
    | _ => simp [txtsD] at h
theorem dedL_len {K : Type} [DecidableEq K] (xs : List K) : (dedL xs).length ≤ xs.length := by
  have key : ∀ (xs L : List K), (xs.foldl addL L).length ≤ L.length + xs.length := by
    intro xs
    induction xs with
    | nil => intro L; simp
    | cons x r ih =>
      intro L
      have h1 := ih (addL L x)
      have h2 := addL_len L x
      rw [List.foldl_cons, List.length_cons]
      omega
  have := key xs []
  simpa [dedL] using this
theorem datL_strs {K : PySem.W.Frag} {F : Hp} : ∀ xs : List Str, DatL K F (xs.map V.str) (xs.map PyData.str)
  | [] => .nil
  | x :: r => .cons (.str x) (datL_strs r)
theorem snd_sst (hc : X.calm = true) (hu : X.A.units + 70 < cLine) (hg : Gl X "sorted") (hm : X.mg "sorted" = none) (hg2 : Gl X "set") (hm2 : X.mg "set" = none) (hs : noStar a = true) (ha : PE X a (tE X.K Γ gl W ca)) :
    PE X (.Call (.Name "sorted" p) [.Call (.Name "set" p2) [a] [] pos2] [] pos) (tE X.K Γ gl W (.sst ca)) := by
  refine PE.imp (pe_callB (cr_sortG hc hu) hg hm PyProof.Rows.boot_sorted (pa_cons (pe_callTy (cr_setG hc) hg2 hm2 PyProof.Rows.boot_set (pa_cons ha pa_nil (noStar_each hs)) (by decide) (by decide) (noStar_each hs) (plainStar rfl)) pa_nil (noStar_each rfl)) (by decide) (by decide) (noStar_each rfl) (plainStar rfl)) fun σ H Q ⟨x, F, δ, R, pp⟩ => ?_
  unfold evalE at pp
  refine ⟨x, F, δ, R, pp.bind fun r1 δ1 F1 H1 v R1 s1 rv1 p1 => ?_⟩
  obtain ⟨dd, y, _, hd, e, q⟩ := rdTo_of R1 rv1 p1
  cases dd with
  | list ds =>
    simp only [sstD] at e
    split at e
    · rename_i hz
      cases et : txtsD ds with
      | none => rw [et] at e; cases e
      | some xs =>
        rw [et] at e
        cases e
        have eq := txts_eq et
        subst eq
        obtain ⟨l, vs, rfl, hsq, t⟩ := hd.list R1.sub
        obtain rfl := t.strs
        rw [List.length_map] at hz
        refine ⟨l, xs, rfl, hsq, hz, fun p1 n1 => ⟨p1, dedL xs, rfl, upd_same, Nat.le_trans (dedL_len xs) hz, fun z nz => ?_⟩⟩
        have Rp := R1.beside (SetGO X p1 (dedL xs)) n1
        exact q F1 _ _ (Rp.beside _ nz) (Same.refl _) (Rp.resN (u := .ref z) (r := .own (.list ((srtS (dedL xs)).map PyData.str))) ⟨z, rfl, ⟨(srtS (dedL xs)).map V.str, upd_same, datL_strs _⟩, Rp.nF nz, nz⟩)
    · cases e
  | _ => cases e
end
end DE

/-! DE11: targets, what is walked, comprehensions. -/
namespace DE
open PySem PySem.Spec PyProof.Rows L2
section
variable {K : PySem.W.Frag} {x : Fx} {F H : Hp} {σ : L2.St} {δ : DEnv}
/-- a slot takes a value -/
theorem Rel.set (R : Rel K x F σ H δ) {i : Nat} {c c0 : Cell} {v : V} (q : δ[i]? = some c0) (ni : ∀ d, c0 ≠ .inp d) (hc : ∀ d, c ≠ .inp d) (hs : SlotR K F H (some (some v)) c)
    (ho : c.isOwn = true -> ∀ a, v = .ref a -> F a = none ∧ x.G a = none ∧ ∀ (j : Nat) (e : Cell), j ≠ i -> δ[j]? = some e -> e.isOwn = true -> σ[j]? ≠ some (some (V.ref a))) : Rel K x F (σ.set i (some v)) H (δ.set i c) := by
  have hi : i < δ.length := (List.getElem?_eq_some_iff.mp q).1
  have hiσ : i < σ.length := by rw [R.len]; exact hi
  refine ⟨by rw [List.length_set, List.length_set]; exact R.len, R.sub, R.frm, R.f0, R.ext, fun j e z => ?_, fun j e b z o2 w => ?_, fun j k e e2 b njk z1 o1 z2 o2 w => ?_, fun p hp => ?_, fun j d z => ?_⟩
  · rcases set_get z with ⟨rfl, rfl, _⟩ | ⟨nj, y⟩
    · rw [List.getElem?_set_self hiσ]; exact hs
    · rw [List.getElem?_set_ne (Ne.symm nj)]; exact R.slot j e y
  · rcases set_get z with ⟨rfl, rfl, _⟩ | ⟨nj, y⟩
    · rw [List.getElem?_set_self hiσ] at w; cases w
      obtain ⟨h1, h2, _⟩ := ho o2 b rfl
      exact ⟨h1, h2⟩
    · rw [List.getElem?_set_ne (Ne.symm nj)] at w; exact R.own j e b y o2 w
  · rcases set_get z1 with ⟨e1, e1', _⟩ | ⟨nj, y1⟩
    · subst e1'
      rcases set_get z2 with ⟨e2, _, _⟩ | ⟨nk, y2⟩
      · exact absurd (e1.trans e2.symm) njk
      · rw [e1, List.getElem?_set_self hiσ] at w; cases w
        rw [List.getElem?_set_ne (Ne.symm nk)]
        exact (ho o1 b rfl).2.2 k e2 nk y2 o2
    · rcases set_get z2 with ⟨e2, e2', _⟩ | ⟨nk, y2⟩
      · subst e2'
        rw [List.getElem?_set_ne (Ne.symm nj)] at w
        rw [e2, List.getElem?_set_self hiσ]
        intro zz; cases zz
        exact (ho o2 b rfl).2.2 j e nj y1 o1 w
      · rw [List.getElem?_set_ne (Ne.symm nj)] at w
        rw [List.getElem?_set_ne (Ne.symm nk)]
        exact R.sep j k e e2 b njk y1 o1 y2 o2 w
  · obtain ⟨h1, d, h2⟩ := R.par p hp
    have z : p.1 ≠ i := fun z => by rw [z, q] at h2; cases h2; exact ni d rfl
    exact ⟨by rw [List.getElem?_set_ne (Ne.symm z)]; exact h1, d, by rw [List.getElem?_set_ne (Ne.symm z)]; exact h2⟩
  · rcases set_get z with ⟨rfl, h, _⟩ | ⟨nj, y⟩
    · exact absurd h.symm (hc d)
    · rw [List.getElem?_set_ne (Ne.symm nj)]; exact R.inp j d y
theorem Rel.setPure (R : Rel K x F σ H δ) {i : Nat} {c0 : Cell} {v : V} {d : D} (q : δ[i]? = some c0) (ni : ∀ d, c0 ≠ .inp d) (hd : Dat K F v d) : Rel K x F (σ.set i (some v)) H (δ.set i (.pure d)) :=
  R.set q ni (fun _ z => by cases z) ⟨v, rfl, hd⟩ fun z => by cases z
theorem wipe_out {σ : L2.St} {i : Nat} : ∀ {vs : List Nat}, i ∉ vs -> (wipe σ vs)[i]? = σ[i]?
  | [], _ => rfl
  | v :: vs, h => by
    rw [List.mem_cons, not_or] at h
    show ((wipe σ vs).set v none)[i]? = _
    rw [List.getElem?_set_ne (Ne.symm h.1), wipe_out h.2]
theorem wipeE_length (δ : DEnv) : ∀ vs : List Nat, (wipeE δ vs).length = δ.length
  | [] => rfl
  | v :: vs => by unfold wipeE; rw [List.length_set, wipeE_length δ vs]
theorem wipeE_out {i : Nat} : ∀ {vs : List Nat}, i ∉ vs -> (wipeE δ vs)[i]? = δ[i]?
  | [], _ => rfl
  | v :: vs, h => by
    rw [List.mem_cons, not_or] at h
    show ((wipeE δ vs).set v .emp)[i]? = _
    rw [List.getElem?_set_ne (Ne.symm h.1), wipeE_out h.2]
theorem wipeE_in {i : Nat} {c : Cell} : ∀ {vs : List Nat}, i ∈ vs -> (wipeE δ vs)[i]? = some c -> c = .emp
  | v :: vs, h, e => by
    have e : ((wipeE δ vs).set v .emp)[i]? = some c := e
    rcases set_get e with ⟨_, h2, _⟩ | ⟨h1, h2⟩
    · exact h2
    · rcases List.mem_cons.mp h with z | z
      · exact absurd z h1
      · exact wipeE_in z h2
theorem Rel.wipe (R : Rel K x F σ H δ) {vs : List Nat} (hP : ∀ p ∈ x.P, p.1 ∉ vs) : Rel K x F (L2.wipe σ vs) H (wipeE δ vs) := by
  have out : ∀ {i : Nat} {c : Cell}, (wipeE δ vs)[i]? = some c -> c ≠ .emp -> i ∉ vs ∧ δ[i]? = some c ∧ (L2.wipe σ vs)[i]? = σ[i]? := fun {i c} h n => by
    by_cases z : i ∈ vs
    · exact absurd (wipeE_in z h) n
    · exact ⟨z, by rw [wipeE_out z] at h; exact h, wipe_out z⟩
  have own : ∀ {c : Cell}, c.isOwn = true -> c ≠ .emp := fun {c} h z => by subst z; cases h
  refine ⟨by rw [wipe_length, wipeE_length]; exact R.len, R.sub, R.frm, R.f0, R.ext, fun i c h => ?_, fun i c a h o w => ?_, fun i j c e a nij h1 o1 h2 o2 w => ?_, fun p hp => ?_, fun i d h => ?_⟩
  · cases c with
    | emp => trivial
    | _ => obtain ⟨_, h1, h2⟩ := out h (fun z => by cases z); rw [h2]; exact R.slot i _ h1
  · obtain ⟨_, h1, h2⟩ := out h (own o)
    rw [h2] at w; exact R.own i c a h1 o w
  · obtain ⟨_, g1, g2⟩ := out h1 (own o1)
    obtain ⟨_, g3, g4⟩ := out h2 (own o2)
    rw [g2] at w
    rw [g4]
    exact R.sep i j c e a nij g1 o1 g3 o2 w
  · obtain ⟨h1, d, h2⟩ := R.par p hp
    have z := hP p hp
    exact ⟨by rw [wipe_out z]; exact h1, d, by rw [wipeE_out z]; exact h2⟩
  · obtain ⟨_, h1, h2⟩ := out h (fun z => by cases z)
    rw [h2]; exact R.inp i d h1
theorem rstE_length (δ0 : DEnv) : ∀ vs : List Nat, (rstE δ0 δ vs).length = δ.length
  | [] => rfl
  | v :: vs => by unfold rstE; rw [List.length_set, rstE_length δ0 vs]
theorem rstE_out {δ0 : DEnv} {i : Nat} : ∀ {vs : List Nat}, i ∉ vs -> (rstE δ0 δ vs)[i]? = δ[i]?
  | [], _ => rfl
  | v :: vs, h => by
    rw [List.mem_cons, not_or] at h
    show ((rstE δ0 δ vs).set v _)[i]? = _
    rw [List.getElem?_set_ne (Ne.symm h.1), rstE_out h.2]
theorem rstE_in {δ0 : DEnv} {i : Nat} {c : Cell} : ∀ {vs : List Nat}, i ∈ vs -> (rstE δ0 δ vs)[i]? = some c -> c = δ0.getD i .emp
  | v :: vs, h, e => by
    have e : ((rstE δ0 δ vs).set v (δ0.getD v .emp))[i]? = some c := e
    rcases set_get e with ⟨h1, h2, _⟩ | ⟨h1, h2⟩
    · rw [h1]; exact h2
    · rcases List.mem_cons.mp h with z | z
      · exact absurd z h1
      · exact rstE_in z h2
/-- behind a comprehension: its own names hold what they held -/
theorem Rel.unwipe {F1 H1 : Hp} {δ1 : DEnv} {vs : List Nat} (R : Rel K x F (L2.wipe σ vs) H δ) (R1 : Rel K x F1 σ H1 δ1) (s : Same F1 F) (hp : vs.all (plainAt δ1) = true) : Rel K x F σ H (rstE δ1 δ vs) := by
  have pl : ∀ i ∈ vs, ∃ c, δ1[i]? = some c ∧ c.isOwn = false := fun i hi => by
    have z := List.all_eq_true.mp hp i hi
    unfold plainAt at z
    split at z
    · rename_i c q; exact ⟨c, q, by simpa using z⟩
    · cases z
  have key : ∀ {i : Nat} {c : Cell}, (rstE δ1 δ vs)[i]? = some c -> (i ∉ vs ∧ δ[i]? = some c ∧ (L2.wipe σ vs)[i]? = σ[i]?) ∨ (i ∈ vs ∧ δ1[i]? = some c ∧ c.isOwn = false) := fun {i c} h => by
    by_cases z : i ∈ vs
    · obtain ⟨c', h1, h2⟩ := pl i z
      have e := rstE_in z h
      rw [List.getD_eq_getElem?_getD, h1] at e
      have e : c = c' := e
      subst e
      exact .inr ⟨z, h1, h2⟩
    · exact .inl ⟨z, by rw [rstE_out z] at h; exact h, wipe_out z⟩
  have own : ∀ {i : Nat} {c : Cell}, (rstE δ1 δ vs)[i]? = some c -> c.isOwn = true -> i ∉ vs ∧ δ[i]? = some c ∧ (L2.wipe σ vs)[i]? = σ[i]? := fun {i c} h o => by
    rcases key h with z | ⟨_, _, z⟩
    · exact z
    · rw [o] at z; cases z
  refine ⟨by rw [rstE_length, ← R.len, wipe_length], R.sub, R.frm, R.f0, R.ext, fun i c h => ?_, fun i c a h o w => ?_, fun i j c e a nij h1 o1 h2 o2 w => ?_, fun p hp => ?_, fun i d h => ?_⟩
  · rcases key h with ⟨_, h1, h2⟩ | ⟨_, h1, h2⟩
    · rw [← h2]; exact R.slot i c h1
    · have hs := R1.slot i c h1
      cases c with
      | emp => trivial
      | pure d => obtain ⟨v, e1, e2⟩ := hs; exact ⟨v, e1, e2.mono s⟩
      | own d => cases h2
      | inp d => cases h2
  · obtain ⟨_, h1, h2⟩ := own h o
    rw [← h2] at w; exact R.own i c a h1 o w
  · obtain ⟨_, g1, g2⟩ := own h1 o1
    obtain ⟨_, g3, g4⟩ := own h2 o2
    rw [← g2] at w
    rw [← g4]
    exact R.sep i j c e a nij g1 o1 g3 o2 w
  · obtain ⟨h1, d, h2⟩ := R.par p hp
    obtain ⟨_, d1, g2⟩ := R1.par p hp
    have z : p.1 ∉ vs := fun z => by
      obtain ⟨c, e1, e2⟩ := pl _ z
      rw [g2] at e1; cases e1; cases e2
    exact ⟨by rw [← wipe_out z]; exact h1, d, by rw [rstE_out z]; exact h2⟩
  · rcases key h with ⟨_, h1, h2⟩ | ⟨_, _, h2⟩
    · rw [← h2]; exact R.inp i d h1
    · cases h2

/-! ### an object beside: a comprehension's list -/
/-- at D an object that nothing of the state speaks of -/
structure Beside (x : Fx) (F H : Hp) (σ : L2.St) (δ : DEnv) (p : Addr) (o : HO) : Prop where
  at_ : H p = some o
  nF : F p = none
  nG : x.G p = none
  ns : ∀ (i : Nat) (c : Cell), δ[i]? = some c -> c.isOwn = true -> σ[i]? ≠ some (some (V.ref p))
abbrev Fx.with (x : Fx) (p : Addr) (o : HO) : Fx := { x with G := upd x.G p o }
theorem Rel.addG (R : Rel K x F σ H δ) {p : Addr} {o : HO} (b : Beside x F H σ δ p o) : Rel K (x.with p o) F σ H δ :=
  ⟨R.len, R.sub, fun a u h => by
    have h : upd x.G p o a = some u := h
    by_cases z : a = p
    · subst z; rw [upd_same] at h; cases h; exact b.at_
    · rw [upd_ne z] at h; exact R.frm _ _ h, R.f0, fun a h => by
    rcases R.ext a h with z | z
    · exact .inl z
    · refine .inr ?_
      show upd x.G p o a = none
      rw [upd_ne]
      · exact z
      · rintro rfl; exact h b.nF, R.slot, fun i c a h1 h2 h3 => by
    obtain ⟨z1, z2⟩ := R.own i c a h1 h2 h3
    refine ⟨z1, ?_⟩
    show upd x.G p o a = none
    rw [upd_ne]
    · exact z2
    · rintro rfl; exact b.ns i c h1 h2 h3, R.sep, R.par, R.inp⟩
theorem Rel.delG {p : Addr} {o : HO} (R : Rel K (x.with p o) F σ H δ) (n0 : x.F0 p = none) (nG : x.G p = none) : Rel K x F σ H δ ∧ Beside x F H σ δ p o := by
  have hp : H p = some o := R.frm p o upd_same
  have nF : F p = none := by
    cases w : F p with
    | none => rfl
    | some u =>
      rcases R.ext p (by rw [w]; exact fun z => by cases z) with z | z
      · exact absurd n0 z
      · have z : upd x.G p o p = none := z
        rw [upd_same] at z; cases z
  have ow : ∀ (i : Nat) (c : Cell) (a : Addr), δ[i]? = some c -> c.isOwn = true -> σ[i]? = some (some (V.ref a)) -> a ≠ p ∧ F a = none ∧ x.G a = none := fun i c a h1 h2 h3 => by
    obtain ⟨z1, z2⟩ := R.own i c a h1 h2 h3
    have z2 : upd x.G p o a = none := z2
    have ne : a ≠ p := by rintro rfl; rw [upd_same] at z2; cases z2
    rw [upd_ne ne] at z2
    exact ⟨ne, z1, z2⟩
  refine ⟨⟨R.len, R.sub, fun a u h => ?_, R.f0, fun a h => ?_, R.slot, fun i c a h1 h2 h3 => (ow i c a h1 h2 h3).2, R.sep, R.par, R.inp⟩, hp, nF, nG, fun i c h1 h2 h3 => (ow i c p h1 h2 h3).1 rfl⟩
  · refine R.frm a u ?_
    show upd x.G p o a = some u
    rw [upd_ne]
    · exact h
    · rintro rfl; rw [nG] at h; cases h
  · rcases R.ext a h with z | z
    · exact .inl z
    · have z : upd x.G p o a = none := z
      by_cases w : a = p
      · subst w; rw [upd_same] at z; cases z
      · rw [upd_ne w] at z; exact .inr z
/-- the object beside is changed -/
theorem Rel.updB (R : Rel K x F σ H δ) {p : Addr} {o o' : HO} (b : Beside x F H σ δ p o) : Rel K x F σ (upd H p o') δ ∧ Beside x F (upd H p o') σ δ p o' :=
  ⟨⟨R.len, same_updR R.sub b.nF, same_updR R.frm b.nG, R.f0, R.ext, fun i c h => (R.slot i c h).mono (Same.refl _) fun a u oc z w => by
    rw [upd_ne]
    · exact w
    · rintro rfl; exact b.ns i c h oc z, R.own, R.sep, R.par, R.inp⟩, upd_same, b.nF, b.nG, b.ns⟩
end
end DE

/-! DE12: targets, what is walked, comprehensions: the rules. -/
namespace DE
open PySem PySem.Spec PyProof.Rows L2
section
variable (K : PySem.W.Frag) (Γ : Calls) (gl : Str -> Option D) (W : WX)
def tG (t : CT) : TG := fun v σ H Q => ∃ x F δ d δ', Rel K x F σ H δ ∧ Dat K F v d ∧ asgD t d δ = some δ' ∧ ∀ σ', Rel K x F σ' H δ' -> (∀ j, j ∉ t.slots -> σ'[j]? = σ[j]?) -> σ'.length = σ.length -> Q σ' H
def tGs (ts : List CT) : TGs := fun vs σ H Q => ∃ x F δ ds δ', Rel K x F σ H δ ∧ DatL K F vs ds ∧ asgDs ts ds δ = some δ' ∧ ∀ σ', Rel K x F σ' H δ' -> (∀ j, j ∉ slotsOf ts -> σ'[j]? = σ[j]?) -> σ'.length = σ.length -> Q σ' H
structure ItOk (J : It) (F : Hp) (ds : List D) : Prop where
  go : ∀ i H, Same F H -> i < ds.length -> J.go i H
  stop : ∀ H, Same F H -> J.stop ds.length H
  yld : ∀ i H v H' F1, Same F F1 -> Same F1 H -> i < ds.length -> J.yld i H v H' -> ∃ F2 d, Grw F1 H F2 H' ∧ ds[i]? = some d ∧ Dat K F2 v d
def tI (c : CI) : TI := fun σ H R => ∃ x F δ, Rel K x F σ H δ ∧ PostG K x σ W (fun F' _ _ J ds => ItOk K J F' ds) (evalI Γ gl c δ) F R
def tC' (c : CO) : TT := fun σ H Q => ∃ x F δ, Rel K x F σ H δ ∧ PostG K x σ W RB (evalC Γ gl c δ) F Q
end
theorem PG.imp {X : Cx} {e : Expr} {t t' : TG} (h : PG X e t) (i : ∀ v σ H Q, t' v σ H Q -> t v σ H Q) : PG X e t' := ⟨fun pins s σ H v u Q I r q => h.run pins s σ H v u Q I r (i _ _ _ _ q)⟩
theorem PGs.imp {X : Cx} {e : List Expr} {t t' : TGs} (h : PGs X e t) (i : ∀ v σ H Q, t' v σ H Q -> t v σ H Q) : PGs X e t' := ⟨fun pins s σ H v u Q I r q => h.run pins s σ H v u Q I r (i _ _ _ _ q)⟩
section
variable {X : Cx} {Γ : Calls} {gl : Str -> Option D} {W : WX} {a b d : Expr} {ca cb cd : CE} {pos : Pos} {es : List Expr} {ces : CEs}
theorem snd_nm {i : Nat} {y : Str} (nd : X.N.Nodup) (hN : X.N[i]? = some y) (hl : Loc X.env.scope y) (hf : X.fn y = true ∨ X.env.scope.names.lookup y = some .local) : PG X (.Name y pos) (tG X.K (.nm i)) :=
  PG.imp (pg_name nd hN hl hf) fun v σ H Q ⟨x, F, δ, d, δ', R, hd, e, q⟩ => by
    simp only [asgD] at e
    cases z : δ[i]? with
    | none => simp only [z] at e; cases e
    | some c =>
      have hσ : ∀ j, j ∉ (CT.nm i).slots -> (σ.set i (some v))[j]? = σ[j]? := fun j hj => by
        rw [List.getElem?_set_ne]
        rintro rfl; exact hj (by simp [CT.slots])
      cases c with
      | inp _ => simp only [z] at e; cases e
      | _ => simp only [z] at e; cases e; exact q _ (R.setPure z (fun _ w => by cases w) hd) hσ List.length_set
theorem snd_gnil : PGs X [] (tGs X.K []) :=
  PGs.imp pgs_nil fun vs σ H Q ⟨x, F, δ, ds, δ', R, hd, e, q⟩ => by
    cases hd with
    | nil => simp only [asgDs] at e; cases e; exact ⟨rfl, q σ R (fun _ _ => rfl) rfl⟩
    | cons _ _ => simp only [asgDs] at e; cases e
theorem assign_each {e : Expr} {es : List Expr} {env : Env} (h : noStar e = true) : assignEach (e :: es) env = (false, assign e env) :: assignEach es env := by
  cases e <;> first | (simp [noStar] at h; done) | simp only [assignEach]
theorem snd_gcons {e : Expr} {t : CT} {ts : List CT} (hs : noStar e = true) (h1 : PG X e (tG X.K t)) (h2 : PGs X es (tGs X.K ts)) : PGs X (e :: es) (tGs X.K (t :: ts)) :=
  PGs.imp (pgs_cons h1 h2 (by rw [assign_each hs]; rfl)) fun vs σ H Q ⟨x, F, δ, ds, δ', R, hd, e, q⟩ => by
    cases hd with
    | nil => simp only [asgDs] at e; cases e
    | @cons v vs d ds hv hr =>
      simp only [asgDs] at e
      cases z : asgD t d δ with
      | none => simp only [z] at e; cases e
      | some δ1 =>
        simp only [z] at e
        refine ⟨v, vs, rfl, x, F, δ, d, δ1, R, hv, z, fun σ1 R1 k1 l1 => ⟨x, F, δ1, ds, δ', R1, hr, e, fun σ2 R2 k2 l2 => q σ2 R2 (fun j hj => ?_) (l2.trans l1)⟩⟩
        simp only [slotsOf, List.mem_append, not_or] at hj
        rw [k2 j hj.2, k1 j hj.1]
theorem assignEach_star : ∀ {es : List Expr} {env : Env}, es.all noStar = true -> (assignEach es env).length = es.length ∧ (assignEach es env).findIdx? (·.1) = none
  | [], env, _ => by simp only [assignEach]; exact ⟨rfl, rfl⟩
  | e :: r, env, h => by
    rw [List.all_cons, Bool.and_eq_true] at h
    obtain ⟨h1, h2⟩ := assignEach_star (es := r) (env := env) h.2
    rw [assign_each h.1]
    exact ⟨by rw [List.length_cons, List.length_cons, h1], by rw [List.findIdx?_cons, h2]; rfl⟩
theorem asgDs_len : ∀ {ts : List CT} {ds : List D} {δ δ' : DEnv}, asgDs ts ds δ = some δ' -> ts.length = ds.length
  | [], [], _, _, _ => rfl
  | [], _ :: _, _, _, h => by simp only [asgDs] at h; cases h
  | _ :: _, [], _, _, h => by simp only [asgDs] at h; cases h
  | t :: ts, d :: ds, δ, δ', h => by
    simp only [asgDs] at h
    cases z : asgD t d δ with
    | none => simp only [z] at h; cases h
    | some δ1 => simp only [z] at h; rw [List.length_cons, List.length_cons, asgDs_len h]
theorem snd_gtup {k : Nat} {ts : List CT} (hc : X.calm = true) (hs : es.all noStar = true) (hl : ts.length = es.length) (h : PGs X es (tGs X.K ts)) : PG X (.Tuple es k pos) (tG X.K (.tp ts)) :=
  PG.imp (pg_tup hc h (n := es.length) (assignEach_star hs).1 (assignEach_star hs).2) fun v σ H Q ⟨x, F, δ, d, δ', R, hd, e, q⟩ => by
    cases d with
    | tuple ds =>
      cases hd with
      | tup hq ht =>
        simp only [asgD] at e
        refine ⟨_, _, rfl, sqT_mono R.sub hq.1, by rw [ht.length, ← hl, asgDs_len e], x, F, δ, ds, δ', R, ht, e, fun σ' R' k' l' => q σ' R' (fun j hj => k' j (by simpa [CT.slots] using hj)) l'⟩
    | _ => simp only [asgD] at e; cases e

/-! ### what is walked -/
theorem it_list {K : PySem.W.Frag} {F : Hp} {a : Addr} {xs : List V} {ds : List D} (h : SqL K F a xs) (t : DatL K F xs ds) : ItOk K (Itl K a) F ds where
  go := fun i H s hi => by
    have hi' : i < xs.length := by rw [t.length]; exact hi
    exact ⟨xs, xs[i], sqL_mono s h, List.getElem?_eq_getElem hi'⟩
  stop := fun H s => ⟨xs, sqL_mono s h, by rw [t.length]; exact Nat.le_refl _⟩
  yld := fun i H v H' F1 s1 s2 hi y => by
    obtain ⟨rfl, y⟩ := y
    have e := y xs (sqL_mono (s1.trans s2) h)
    obtain ⟨d, e1, e2⟩ := t.getV e
    exact ⟨F1, d, Grw.refl s2, e1, e2.mono s1⟩
theorem it_tup {K : PySem.W.Frag} {F : Hp} {a : Addr} {xs : List V} {ds : List D} (h : SqT K F a xs) (t : DatL K F xs ds) : ItOk K (Itt K a) F ds where
  go := fun i H s hi => by
    have hi' : i < xs.length := by rw [t.length]; exact hi
    exact ⟨xs, xs[i], sqT_mono s h, List.getElem?_eq_getElem hi'⟩
  stop := fun H s => ⟨xs, sqT_mono s h, by rw [t.length]; exact Nat.le_refl _⟩
  yld := fun i H v H' F1 s1 s2 hi y => by
    obtain ⟨rfl, y⟩ := y
    have e := y xs (sqT_mono (s1.trans s2) h)
    obtain ⟨d, e1, e2⟩ := t.getV e
    exact ⟨F1, d, Grw.refl s2, e1, e2.mono s1⟩
theorem it_str {K : PySem.W.Frag} {F : Hp} (z : Str) : ItOk K (Its z) F (z.cps.toList.map fun c => .str ⟨#[c]⟩) where
  go := fun i H s hi => by show i < z.cps.size; simpa using hi
  stop := fun H s => by show z.cps.size ≤ _; simp
  yld := fun i H v H' F1 s1 s2 hi y => by
    obtain ⟨rfl, c, e, rfl⟩ := y
    refine ⟨F1, .str ⟨#[c]⟩, Grw.refl s2, ?_, .str _⟩
    rw [List.getElem?_map, Array.getElem?_toList, e]; rfl
theorem it_rng {K : PySem.W.Frag} {F : Hp} (lo hi : Int) : ItOk K (Itr lo (hi - lo).toNat) F (rngD lo hi) where
  go := fun i H s h => by
    show i < (hi - lo).toNat
    unfold rngD at h
    rw [List.length_map, List.length_range] at h
    exact h
  stop := fun H s => by
    show (hi - lo).toNat ≤ _
    unfold rngD
    rw [List.length_map, List.length_range]
    exact Nat.le_refl _
  yld := fun i H v H' F1 s1 s2 h y => by
    obtain ⟨rfl, rfl⟩ := y
    refine ⟨F1, .int (lo + i), Grw.refl s2, ?_, .int _⟩
    have h : i < (hi - lo).toNat := by
      unfold rngD at h
      rw [List.length_map, List.length_range] at h
      exact h
    unfold rngD
    rw [List.getElem?_map, List.getElem?_range h]; rfl
theorem it_zip {K : PySem.W.Frag} {F : Hp} {a b : Addr} {xs ys : List V} {ds es : List D} (h : SqT K F a xs) (t : DatL K F xs ds) (h2 : SqT K F b ys) (t2 : DatL K F ys es) : ItOk K (ItzF K a b) F (zipD ds es) where
  go := fun i H s hi => by
    unfold zipD at hi
    rw [List.length_map, List.length_zip] at hi
    have l1 := t.length
    have l2 := t2.length
    exact ⟨xs, ys, _, _, sqT_mono s h, sqT_mono s h2, List.getElem?_eq_getElem (by omega : i < xs.length), List.getElem?_eq_getElem (by omega : i < ys.length)⟩
  stop := fun H s => by
    refine ⟨xs, ys, sqT_mono s h, sqT_mono s h2, ?_⟩
    unfold zipD
    rw [List.length_map, List.length_zip]
    have l1 := t.length
    have l2 := t2.length
    omega
  yld := fun i H v H' F1 s1 s2 hi y => by
    obtain ⟨T, o, x, y, rfl, nT, ho, rfl, e1, e2⟩ := y
    obtain ⟨d, g1, g2⟩ := t.getV (e1 xs (sqT_mono (s1.trans s2) h))
    obtain ⟨e, g3, g4⟩ := t2.getV (e2 ys (sqT_mono (s1.trans s2) h2))
    have nF := s2.free nT
    refine ⟨upd F1 T (.frz o (.tup [x, y])), .tuple [d, e], Grw.still s2 nT, ?_, .tup ⟨.inl (.inr ⟨o, upd_same⟩), .inl ⟨o, _, upd_same, ho⟩⟩ (.cons (g2.mono (s1.trans (same_upd nF))) (.cons (g4.mono (s1.trans (same_upd nF))) .nil))⟩
    unfold zipD
    have z : (ds.zip es)[i]? = some (d, e) := List.getElem?_zip_eq_some.mpr ⟨g1, g3⟩
    rw [List.getElem?_map, z]; rfl
variable {tg : Expr}
theorem snd_i_zip {p : Pos} (ht : isTup tg = true) (hg : Gl X "zip") (hm : X.mg "zip" = none) (hs : noStar a = true) (hs2 : noStar b = true) (ha : PE X a (tE X.K Γ gl W ca)) (hb : PE X b (tE X.K Γ gl W cb)) : PI X tg (.Call (.Name "zip" p) [a, b] [] pos) (tI X.K Γ gl W (.zp ca cb)) := by
  cases tg with
  | Tuple elts kk tpos =>
    refine ⟨fun pins s σ H R I h => ?_⟩
    refine (pi_zipF hg hm (pa_cons ha (pa_cons hb pa_nil (noStar_each hs2)) (noStar_each hs)) (noStar_each hs) (plainStar (by rw [List.all_cons, hs2]; rfl))).run pins s σ H R I ?_
    obtain ⟨x, F, δ, Rl, pp⟩ := h
    unfold evalI at pp
    refine ⟨x, F, δ, Rl, pp.bind fun r δ1 F1 H1 v R1 s1 rv p1 => ?_⟩
    obtain ⟨F2, R2, s2, rv2⟩ := R1.settle rv
    refine ⟨x, F2, δ1, R2, (PostG.base s2 p1).bind fun r2 δ2 F3 H3 w R3 s3 rv3 p3 => ?_⟩
    have rv1' := rv2.stay (δ' := δ2) (H' := H3) s3
    cases e1 : rd δ2 (settle r) with
    | none => simp only [e1] at p3; exact p3.elim
    | some d =>
      cases e2 : rd δ2 r2 with
      | none => cases d <;> (simp only [e1, e2] at p3; exact p3.elim)
      | some e =>
        have hd := R3.read rv1' e1
        have he := R3.read rv3 e2
        cases d with
        | tuple ds => cases e with
          | tuple es =>
            simp only [e1, e2] at p3
            obtain ⟨a1, xs, rfl, _, _, D1⟩ := hd.tup R3.sub
            obtain ⟨b1, ys, rfl, _, _, D2⟩ := he.tup R3.sub
            cases D1 with
            | @tup _ xs1 _ q1 t1 =>
              cases D2 with
              | @tup _ ys1 _ q2 t2 =>
                exact ⟨a1, b1, xs1, ys1, rfl, sqT_mono R3.sub q1.1, sqT_mono R3.sub q2.1, p3 F3 H3 _ R3 (Same.refl _) (it_zip q1.1 t1 q2.1 t2)⟩
          | _ => simp only [e1, e2] at p3; exact p3.elim
        | _ => cases e <;> (simp only [e1, e2] at p3; exact p3.elim)
  | _ => cases ht
theorem snd_i_val (he : PE X a (tE X.K Γ gl W ca)) : PI X tg a (tI X.K Γ gl W (.val ca)) := by
  refine ⟨fun pins s σ H R I h => ?_⟩
  obtain ⟨x, F, δ, Rl, p⟩ := h
  unfold evalI at p
  cases e1 : evalE Γ gl ca δ with
  | no => rw [e1] at p; exact p.elim
  | ex e δ1 => rw [e1] at p; exact (pi_list he).run pins s σ H R I ⟨x, F, δ, Rl, by rw [e1]; exact p⟩
  | ok r δ1 =>
    rw [e1] at p
    simp only [Out.bind] at p
    cases e2 : esc r δ1 with
    | no => rw [e2] at p; exact p.elim
    | ex e δ2 => exact absurd e2 esc_nex
    | ok d δ2 =>
      rw [e2] at p
      simp only [Out.bind] at p
      cases d with
      | list ds =>
        refine (pi_list he).run pins s σ H R I ⟨x, F, δ, Rl, ?_⟩
        rw [e1]
        intro F1 H1 v R1 s1 rv
        obtain ⟨F2, R2, s2, hd⟩ := R1.esc rv e2
        cases hd with
        | lst hq ht => exact ⟨_, rfl, ⟨_, sqL_mono R2.sub hq⟩, p F2 H1 _ R2 (s1.trans s2) (it_list hq ht)⟩
      | tuple ds =>
        refine (pi_tup he).run pins s σ H R I ⟨x, F, δ, Rl, ?_⟩
        rw [e1]
        intro F1 H1 v R1 s1 rv
        obtain ⟨F2, R2, s2, hd⟩ := R1.esc rv e2
        cases hd with
        | tup hq ht => exact ⟨_, rfl, ⟨_, sqT_mono R2.sub hq.1⟩, p F2 H1 _ R2 (s1.trans s2) (it_tup hq.1 ht)⟩
      | str z =>
        refine (pi_str he).run pins s σ H R I ⟨x, F, δ, Rl, ?_⟩
        rw [e1]
        intro F1 H1 v R1 s1 rv
        obtain ⟨F2, R2, s2, hd⟩ := R1.esc rv e2
        cases hd
        exact ⟨z, rfl, p F2 H1 _ R2 (s1.trans s2) (it_str z)⟩
      | _ => exact p.elim
theorem rngOk_of {i : Int} (h : rngOk i = true) : -(2 ^ 62) ≤ i ∧ i < 2 ^ 62 := by
  unfold rngOk at h
  have z := sizeB_iff.mp h
  exact ⟨by have := z.1; omega, by have := z.2; omega⟩
theorem snd_i_rng1 {p : Pos} (hg : Gl X "range") (hm : X.mg "range" = none) (hs : noStar a = true) (ha : PE X a (tE X.K Γ gl W ca)) : PI X tg (.Call (.Name "range" p) [a] [] pos) (tI X.K Γ gl W (.rng1 ca)) := by
  refine ⟨fun pins s σ H R I h => ?_⟩
  refine (pi_range1 hg hm (pa_cons ha pa_nil (noStar_each hs)) (by rw [noStar_each hs]; simp only [starEach])).run pins s σ H R I ?_
  obtain ⟨x, F, δ, Rl, pp⟩ := h
  unfold evalI at pp
  refine ⟨x, F, δ, Rl, pp.bind fun r δ1 F1 H1 v R1 s1 rv p1 => ?_⟩
  unfold rdTo at p1
  cases e1 : rd δ1 r with
  | none => simp only [e1] at p1; exact p1.elim
  | some d =>
    simp only [e1] at p1
    have hd := R1.read rv e1
    cases d with
    | int i =>
      obtain rfl := hd.int
      simp only at p1
      split at p1
      · rename_i ok
        obtain ⟨h1, h2⟩ := rngOk_of ok
        refine ⟨i, rfl, h1, h2, p1 F1 H1 _ R1 (Same.refl _) ?_⟩
        have z := it_rng (K := X.K) (F := F1) 0 i
        rw [Int.sub_zero] at z
        exact z
      · exact p1.elim
    | _ => exact p1.elim
theorem snd_i_rng2 {p : Pos} (hg : Gl X "range") (hm : X.mg "range" = none) (hs : noStar a = true) (hs2 : noStar b = true) (ha : PE X a (tE X.K Γ gl W ca)) (hb : PE X b (tE X.K Γ gl W cb)) : PI X tg (.Call (.Name "range" p) [a, b] [] pos) (tI X.K Γ gl W (.rng2 ca cb)) := by
  refine ⟨fun pins s σ H R I h => ?_⟩
  refine (pi_range2 hg hm (pa_cons ha (pa_cons hb pa_nil (noStar_each hs2)) (noStar_each hs)) (by rw [noStar_each hs, noStar_each hs2]; simp only [starEach]) (by rw [noStar_each hs2]; simp only [starEach])).run pins s σ H R I ?_
  obtain ⟨x, F, δ, Rl, pp⟩ := h
  unfold evalI at pp
  refine ⟨x, F, δ, Rl, pp.bind fun r δ1 F1 H1 v R1 s1 rv p1 => ?_⟩
  obtain ⟨F2, R2, s2, rv2⟩ := R1.settle rv
  refine ⟨x, F2, δ1, R2, (PostG.base s2 p1).bind fun r2 δ2 F3 H3 w R3 s3 rv3 p3 => ?_⟩
  have rv1' := rv2.stay (δ' := δ2) (H' := H3) s3
  cases e1 : rd δ2 (settle r) with
  | none => simp only [e1] at p3; exact p3.elim
  | some d =>
    cases e2 : rd δ2 r2 with
    | none => cases d <;> (simp only [e1, e2] at p3; exact p3.elim)
    | some e =>
      have hd := R3.read rv1' e1
      have he := R3.read rv3 e2
      cases d with
      | int i => cases e with
        | int j =>
          simp only [e1, e2] at p3
          obtain rfl := hd.int
          obtain rfl := he.int
          split at p3
          · rename_i ok
            rw [Bool.and_eq_true] at ok
            obtain ⟨h1, h2⟩ := rngOk_of ok.1
            obtain ⟨h3, h4⟩ := rngOk_of ok.2
            exact ⟨i, j, rfl, ⟨h1, h2, h3, h4⟩, p3 F3 H3 _ R3 (Same.refl _) (it_rng i j)⟩
          · exact p3.elim
        | _ => simp only [e1, e2] at p3; exact p3.elim
      | _ => simp only [e1, e2] at p3; exact p3.elim

/-! ### a comprehension -/
theorem wipe_eq {σ σ' : L2.St} {vs : List Nat} (hl : σ'.length = σ.length) (h : ∀ j, j ∉ vs -> σ'[j]? = σ[j]?) : L2.wipe σ' vs = L2.wipe σ vs := by
  have wn : ∀ (τ : L2.St) (i : Nat), i ∈ vs -> i < τ.length -> (L2.wipe τ vs)[i]? = some none := by
    intro τ i
    clear h
    induction vs with
    | nil => intro h; cases h
    | cons v r ih =>
      intro hm hlt
      show ((L2.wipe τ r).set v none)[i]? = _
      by_cases z : i = v
      · subst z; rw [List.getElem?_set_self (by rw [wipe_length]; exact hlt)]
      · rw [List.getElem?_set_ne (Ne.symm z)]
        exact ih ((List.mem_cons.mp hm).resolve_left z) hlt
  apply List.ext_getElem?
  intro i
  by_cases z : i ∈ vs
  · by_cases q : i < σ.length
    · rw [wn σ i z q, wn σ' i z (by omega)]
    · rw [List.getElem?_eq_none (by rw [wipe_length]; omega), List.getElem?_eq_none (by rw [wipe_length]; omega)]
  · rw [wipe_out z, wipe_out z, h i z]
theorem wipe_idem (σ : L2.St) (vs : List Nat) : L2.wipe (L2.wipe σ vs) vs = L2.wipe σ vs := wipe_eq (wipe_length _ _) fun j hj => wipe_out hj
end
end DE

/-! DE13: comprehensions: the rule. -/
namespace DE
open PySem PySem.Spec PyProof.Rows L2
abbrev W0 : WX := fun _ _ _ _ => False
theorem rstE_own {δ δ1 : DEnv} {vs : List Nat} (hp : vs.all (plainAt δ1) = true) {i : Nat} {c : Cell} (h : (rstE δ1 δ vs)[i]? = some c) (o : c.isOwn = true) : i ∉ vs ∧ δ[i]? = some c := by
  by_cases z : i ∈ vs
  · have w := List.all_eq_true.mp hp i z
    have e := rstE_in z h
    unfold plainAt at w
    split at w
    · rename_i c' q
      rw [List.getD_eq_getElem?_getD, q] at e
      have e : c = c' := e
      subst e
      rw [o] at w; cases w
    · cases w
  · exact ⟨z, by rw [rstE_out z] at h; exact h⟩
theorem Beside.wipe {x : Fx} {F H : Hp} {σ : L2.St} {δ : DEnv} {p : Addr} {o : HO} (b : Beside x F H σ δ p o) (vs : List Nat) : Beside x F H (L2.wipe σ vs) (wipeE δ vs) p o :=
  ⟨b.at_, b.nF, b.nG, fun i c h oc => by
    by_cases z : i ∈ vs
    · have := wipeE_in z h; subst this; cases oc
    · rw [wipeE_out z] at h; rw [wipe_out z]; exact b.ns i c h oc⟩
theorem Beside.grw {x : Fx} {F H F' H' : Hp} {σ : L2.St} {δ : DEnv} {p : Addr} {o : HO} (b : Beside x F H σ δ p o) (g : Grw F H F' H') : Beside x F' H' σ δ p o :=
  ⟨g.h _ _ b.at_, (by
    cases w : F' p with
    | none => rfl
    | some u =>
      have := g.n p b.nF (by rw [w]; exact fun z => by cases z)
      rw [b.at_] at this; cases this), b.nG, b.ns⟩
section
variable {X : Cx} {Γ : Calls} {gl : Str -> Option D} {W : WX}
theorem snd_lc {elt tg iter : Expr} {ifs : List Expr} {scope : Scope} {own : List (Str × Nat)} {pos : Pos} {ce : CE} {ct : CT} {cit : CI} {cco : CO} (hc : X.calm = true) (hN : X.N.Nodup) (hi : PI X tg iter (tI X.K Γ gl W cit)) (ok : BlkOk X.N X.env.scope scope own)
    (hg : ∀ (s : Shared) (H : Hp) (C : Addr) (cl : List (Str × Addr)) (fp : List Addr), PG (X.blk s H scope (compEnvC scope cl C X.env) fp) tg (tG X.K ct))
    (ht : ∀ (s : Shared) (H : Hp) (C : Addr) (cl : List (Str × Addr)) (fp : List Addr), PTs (X.blk s H scope (compEnvC scope cl C X.env) fp) ifs (tC' X.K Γ gl W0 cco))
    (he : ∀ (s : Shared) (H : Hp) (C : Addr) (cl : List (Str × Addr)) (fp : List Addr), PE (X.blk s H scope (compEnvC scope cl C X.env) fp) elt (tE X.K Γ gl W0 ce)) (hs : ∀ z, foldedSetIterable iter X.env z = pure z) (σ : L2.St) (H : Hp) (Q : VK)
    (h : tE X.K Γ gl W (.lc ce ct cit cco (own.map (·.2))) σ H Q) : tLc (tI X.K Γ gl W cit) (tG X.K ct) (tC' X.K Γ gl W0 cco) (tE X.K Γ gl W0 ce) (own.map (·.2)) σ H Q := by
  obtain ⟨x, F, δ, R, p⟩ := h
  unfold evalE at p
  generalize hvs : own.map (·.2) = vs at p ⊢
  refine ⟨x, F, δ, R, p.bind fun ds δ1 F1 H1 J R1 s1 hJ p1 => fun Dd nD => ?_⟩
  by_cases hok : (vs.all (plainAt δ1) && ct.slots.all (vs.contains ·)) = true
  · rw [if_pos hok] at p1
    rw [Bool.and_eq_true] at hok
    obtain ⟨hpl, hsl⟩ := hok
    have hP : ∀ p ∈ x.P, p.1 ∉ vs := fun p hp z => by
      obtain ⟨_, d, h2⟩ := R1.par p hp
      have w := List.all_eq_true.mp hpl p.1 z
      unfold plainAt at w
      rw [h2] at w; cases w
    have hin : ∀ j, j ∈ ct.slots -> j ∈ vs := fun j hj => by simpa using List.all_eq_true.mp hsl j hj
    have n0 : x.F0 Dd = none := R1.f0.free (R1.nF nD)
    have nG : x.G Dd = none := R1.nG nD
    generalize hone : (fun (d : D) (δ : DEnv) => match asgD ct d δ with
          | some δ2 => (evalC Γ gl cco δ2).bind fun b δ3 => if b = true then (evalE Γ gl ce δ3).bind fun r δ4 => (esc r δ4).bind fun y δ5 => Out.ok (some y) (wipeE δ5 vs) else .ok none (wipeE δ3 vs)
          | none => .no) = one at p1
    let Fin : Out (List D) -> Hp -> Prop := fun out F => PostG X.K x σ W (RV X.K x σ) (match out with
        | .ok ys δ2 => .ok (.own (.list ys)) (rstE δ1 δ2 vs)
        | _ => .no) F Q
    have finBase : ∀ {out F F'}, Same F F' -> Fin out F -> Fin out F' := fun {out F F'} s f => PostG.base s f
    refine ⟨fun i m H => ∃ F ys acc δ, Rel X.K x F (L2.wipe σ vs) H δ ∧ Beside x F H (L2.wipe σ vs) δ Dd (.lst acc) ∧ DatL X.K F acc ys ∧ Same F1 F ∧ m = ds.length - i ∧ i ≤ ds.length ∧ Fin (lcLoop one (ds.drop i) ys δ) F,
      ⟨ds.length, F1, [], [], wipeE δ1 vs, (R1.beside _ nD).wipe hP, Beside.wipe ⟨upd_same, R1.nF nD, nG, fun i c h oc z => ?_⟩ vs, .nil, Same.refl _, by omega, Nat.zero_le _, p1⟩, ?_⟩
    · obtain ⟨b, e1, u, e2⟩ := (R1.slot i c h).ownA oc
      rw [z] at e1; cases e1
      rw [nD] at e2; cases e2
    · rintro i m H2 ⟨F2, ys, acc, δ2, R2, b2, hys, s2, rfl, hle, fin⟩
      by_cases hi : i < ds.length
      · refine .inr ⟨hJ.go i H2 (s2.trans R2.sub) hi, fun H' => ∃ m', m' < ds.length - i ∧ ∃ F ys acc δ, Rel X.K x F (L2.wipe σ vs) H' δ ∧ Beside x F H' (L2.wipe σ vs) δ Dd (.lst acc) ∧ DatL X.K F acc ys ∧ Same F1 F ∧ m' = ds.length - (i + 1) ∧ i + 1 ≤ ds.length ∧ Fin (lcLoop one (ds.drop (i + 1)) ys δ) F, fun H' z => z, fun v H3 hy => ?_⟩
        obtain ⟨F3, d, g, ed, hd⟩ := hJ.yld i H2 v H3 F2 s2 R2.sub hi hy
        have edr : ds.drop i = d :: ds.drop (i + 1) := by
          have h1 : ds[i]? = some d := ed
          have h2 := List.drop_eq_getElem_cons hi
          rw [List.getElem?_eq_getElem hi] at h1
          cases h1
          exact h2
        rw [edr] at fin
        replace fin := finBase g.f fin
        simp only [lcLoop] at fin
        have R3 := (R2.grw g).addG (b2.grw g)
        rw [← hone] at fin
        -- the target
        cases e1 : asgD ct d δ2 with
        | none => simp only [e1] at fin; exact fin.elim
        | some δ3 =>
          simp only [e1] at fin
          refine ⟨x.with Dd (.lst acc), F3, δ2, d, δ3, R3, hd, e1, fun σ4 R4 k4 l4 => ?_⟩
          have ew : L2.wipe σ4 vs = L2.wipe σ vs := (wipe_eq l4 fun j hj => k4 j fun z => hj (hin j z)).trans (wipe_idem σ vs)
          refine ⟨ew, x.with Dd (.lst acc), F3, δ3, R4, ?_⟩
          -- the turn's end
          have turn : ∀ {F5 H5 : Hp} {δ5 : DEnv}, Rel X.K (x.with Dd (.lst acc)) F5 σ4 H5 δ5 -> Same F3 F5 -> Rel X.K x F5 σ4 H5 δ5 ∧ Beside x F5 H5 σ4 δ5 Dd (.lst acc) := fun {F5 H5 δ5} R5 _ => R5.delG n0 nG
          cases e2 : evalC Γ gl cco δ3 with
          | no => simp only [e2, Out.bind] at fin; exact fin.elim
          | ex e δ4 => simp only [e2, Out.bind] at fin; exact fin.elim
          | ok bb δ4 =>
            simp only [e2, Out.bind] at fin
            intro F5 H5 b' R5 s5 eb
            obtain rfl : b' = bb := eb
            cases b' with
            | false =>
              rw [if_neg Bool.false_ne_true] at fin ⊢
              simp only at fin
              obtain ⟨R6, b6⟩ := turn R5 s5
              have R7 := R6.wipe hP
              have b7 := b6.wipe vs
              rw [ew] at R7 b7
              have s7 : Same F2 F5 := g.f.trans s5
              exact ⟨ds.length - (i + 1), by omega, F5, ys, acc, _, R7, b7, hys.mono s7, s2.trans s7, rfl, hi, finBase s5 (by rw [← hone]; exact fin)⟩
            | true =>
              rw [if_pos rfl] at fin ⊢
              refine ⟨x.with Dd (.lst acc), F5, δ4, R5, ?_⟩
              cases e3 : evalE Γ gl ce δ4 with
              | no => simp only [e3, Out.bind] at fin; exact fin.elim
              | ex e δ6 => simp only [e3, Out.bind] at fin; exact fin.elim
              | ok r δ6 =>
                simp only [e3, Out.bind] at fin
                intro F6 H6 y R6 s6 rv
                cases e4 : esc r δ6 with
                | no => simp only [e4, Out.bind] at fin; exact fin.elim
                | ex e δ7 => exact absurd e4 esc_nex
                | ok dy δ7 =>
                  simp only [e4, Out.bind] at fin
                  obtain ⟨F7, R7, s7, hdy⟩ := R6.esc rv e4
                  have s37 : Same F3 F7 := s5.trans (s6.trans s7)
                  obtain ⟨R8, b8⟩ := turn R7 s37
                  obtain ⟨R9, b9⟩ := R8.updB (o' := .lst (acc ++ [y])) b8
                  have R10 := R9.wipe hP
                  have b10 := b9.wipe vs
                  rw [ew] at R10 b10
                  have s27 : Same F2 F7 := g.f.trans s37
                  split at fin
                  · rename_i hz
                    exact ⟨acc, b8.at_, by rw [hys.length]; exact hz, ds.length - (i + 1), by omega, F7, ys ++ [dy], acc ++ [y], _, R10, b10, (hys.mono s27).append (.cons hdy .nil), s2.trans s27, rfl, hi, finBase s37 (by rw [← hone]; exact fin)⟩
                  · exact fin.elim
      · have ei : i = ds.length := by omega
        subst ei
        refine .inl ⟨hJ.stop H2 (s2.trans R2.sub), ?_⟩
        rw [List.drop_length] at fin
        simp only [lcLoop] at fin
        exact fin F2 H2 (.ref Dd) (R2.unwipe R1 s2 hpl) (Same.refl _) ⟨Dd, rfl, ⟨acc, b2.at_, hys⟩, b2.nF, nG, fun i c h oc z => by
          obtain ⟨h1, h2⟩ := rstE_own hpl h oc
          exact b2.ns i c h2 oc (by rw [wipe_out h1]; exact z)⟩
  · rw [if_neg hok] at p1
    exact p1.elim
end
end DE

/-! DE14: statements. -/
namespace DE
open PySem PySem.Spec PyProof.Rows L2
def ResF (K : PySem.W.Frag) (x : Fx) (F H : Hp) (σ : L2.St) (δ : DEnv) (v : V) : Cell -> Prop
  | .pure d => ResV K x F H σ δ v (.pure d)
  | .own d => ResV K x F H σ δ v (.own d)
  | _ => False
def PostS (K : PySem.W.Frag) (x : Fx) (W : WX) (out : Out Fl) (F : Hp) (E : Ends) : Prop := match out with
  | .ok .nx δ' => ∀ F' H' σ', Rel K x F' σ' H' δ' -> Same F F' -> E.nx σ' H'
  | .ok .bk δ' => ∀ F' H' σ', Rel K x F' σ' H' δ' -> Same F F' -> E.bk σ' H'
  | .ok .ct δ' => ∀ F' H' σ', Rel K x F' σ' H' δ' -> Same F F' -> E.ct σ' H'
  | .ok (.rt c) δ' => ∀ F' H' σ' v, Rel K x F' σ' H' δ' -> Same F F' -> ResF K x F' H' σ' δ' v c -> E.rt v H'
  | .ex e δ' => ∀ F' H' σ' cls d, Rel K x F' σ' H' δ' -> Same F F' -> ExR K F' H' e cls d -> W cls d σ' H'
  | .no => False
section
variable {α β : Type} {K : PySem.W.Frag} {x : Fx} {σ : L2.St} {W : WX} {Res : Hp -> Hp -> DEnv -> β -> α -> Prop} {F F1 : Hp}
theorem PostS.base {out : Out Fl} {E : Ends} (s : Same F F1) (h : PostS K x W out F E) : PostS K x W out F1 E := by
  cases out with
  | ok r δ => cases r with
    | nx => exact fun F' H' σ' R s' => h F' H' σ' R (s.trans s')
    | bk => exact fun F' H' σ' R s' => h F' H' σ' R (s.trans s')
    | ct => exact fun F' H' σ' R s' => h F' H' σ' R (s.trans s')
    | rt c => exact fun F' H' σ' v R s' r => h F' H' σ' v R (s.trans s') r
  | ex e δ => exact fun F' H' σ' c d R s' r => h F' H' σ' c d R (s.trans s') r
  | no => exact h
theorem PostS.bindE {out : Out α} {k : α -> DEnv -> Out Fl} {E : Ends} {Q1 : β -> Hp -> Prop} (h : PostS K x W (out.bind k) F E)
    (g : ∀ a δ1 F1 H1 v, Rel K x F1 σ H1 δ1 -> Same F F1 -> Res F1 H1 δ1 v a -> PostS K x W (k a δ1) F1 E -> Q1 v H1) : PostG K x σ W Res out F Q1 := by
  cases out with
  | ok a δ1 => exact fun F' H' v R s r => g a δ1 F' H' v R s r (PostS.base s h)
  | ex e δ => exact fun F' H' c d R s r => h F' H' σ c d R s r
  | no => exact h
end
section
variable (K : PySem.W.Frag) (Γ : Calls) (gl : Str -> Option D) (W : WX) (n : Nat)
def tS (c : CS) : TS := fun E σ H => ∃ x F δ, Rel K x F σ H δ ∧ PostS K x W (execS Γ gl n c δ) F E
def tSs (c : CSs) : TS := fun E σ H => ∃ x F δ, Rel K x F σ H δ ∧ PostS K x W (execSs Γ gl n c δ) F E
end
theorem PS.imp {X : Cx} {e : Stmt} {t t' : TS} (h : PS X e t) (i : ∀ E σ H, t' E σ H -> t E σ H) : PS X e t' := ⟨fun pins s σ H E I q => h.run pins s σ H E I (i _ _ _ q)⟩
theorem PSs.imp {X : Cx} {e : List Stmt} {t t' : TS} (h : PSs X e t) (i : ∀ E σ H, t' E σ H -> t E σ H) : PSs X e t' := ⟨fun pins s σ H E I q => h.run pins s σ H E I (i _ _ _ q)⟩
section
variable {K : PySem.W.Frag} {x : Fx} {F H : Hp} {σ : L2.St} {δ : DEnv}
/-- a slot is let go -/
theorem Rel.drop (R : Rel K x F σ H δ) {i : Nat} {d : D} (q : δ[i]? = some (.own d)) : Rel K x F σ H (δ.set i .emp) ∧ ∃ a, σ[i]? = some (some (V.ref a)) ∧ OwnAt K F H a d ∧ F a = none ∧ x.G a = none ∧ ∀ (j : Nat) (c : Cell), (δ.set i .emp)[j]? = some c -> c.isOwn = true -> σ[j]? ≠ some (some (V.ref a)) := by
  obtain ⟨a, hs, ho⟩ : SlotR K F H σ[i]? (.own d) := R.slot i _ q
  obtain ⟨nF, nG⟩ := R.own i _ a q rfl hs
  refine ⟨⟨by rw [List.length_set]; exact R.len, R.sub, R.frm, R.f0, R.ext, fun j c z => ?_, fun j c b z o w => ?_, fun j k c e b njk z1 o1 z2 o2 w => ?_, fun p hp => ?_, fun j e z => ?_⟩, a, hs, ho, nF, nG, fun j c z o w => ?_⟩
  · rcases set_get z with ⟨rfl, rfl, _⟩ | ⟨nj, z⟩
    · trivial
    · exact R.slot j c z
  · rcases set_get z with ⟨rfl, rfl, _⟩ | ⟨nj, z⟩
    · cases o
    · exact R.own j c b z o w
  · rcases set_get z1 with ⟨rfl, rfl, _⟩ | ⟨nj, z1⟩
    · cases o1
    · rcases set_get z2 with ⟨rfl, rfl, _⟩ | ⟨nk, z2⟩
      · cases o2
      · exact R.sep j k c e b njk z1 o1 z2 o2 w
  · obtain ⟨h1, e, h2⟩ := R.par p hp
    refine ⟨h1, e, ?_⟩
    rw [List.getElem?_set_ne]
    · exact h2
    · rintro rfl; rw [q] at h2; cases h2
  · rcases set_get z with ⟨rfl, h, _⟩ | ⟨nj, z⟩
    · cases h
    · exact R.inp j e z
  · rcases set_get z with ⟨rfl, rfl, _⟩ | ⟨nj, z⟩
    · cases o
    · exact R.sep i j (.own d) c a (Ne.symm nj) q rfl z o hs w
theorem tk_nex {r : Rv} {δ δ' : DEnv} {e : Exn} : tk r δ ≠ .ex e δ' := by
  intro h
  cases r with
  | pure d => cases h
  | own d => cases h
  | bor i =>
    simp only [tk] at h
    split at h <;> cases h
/-- a value goes to a name -/
theorem Rel.tk (R : Rel K x F σ H δ) {v : V} {r : Rv} {c : Cell} {δ' : DEnv} (h : ResV K x F H σ δ v r) (e : DE.tk r δ = .ok c δ') : ∃ F', Rel K x F' σ H δ' ∧ Same F F' ∧
    ((∃ d, c = .pure d ∧ Dat K F' v d) ∨ ∃ d, c = .own d ∧ ResV K x F' H σ δ' v (.own d)) := by
  cases r with
  | pure d' => cases e; exact ⟨F, R, Same.refl _, .inl ⟨d', rfl, h⟩⟩
  | own d' => cases e; exact ⟨F, R, Same.refl _, .inr ⟨d', rfl, h⟩⟩
  | bor i =>
    have h : σ[i]? = some (some v) := h
    cases q : δ[i]? with
    | none => simp only [DE.tk, q] at e; cases e
    | some c =>
      simp only [DE.tk, q] at e
      cases c with
      | emp => cases e
      | inp d' => cases e
      | pure d' =>
        cases e
        obtain ⟨w, h1, h2⟩ : SlotR K F H σ[i]? (.pure d') := R.slot i _ q
        rw [h] at h1; cases h1
        exact ⟨F, R, Same.refl _, .inl ⟨d', rfl, h2⟩⟩
      | own d' =>
        cases e
        obtain ⟨F', w, R', s, h1, h2⟩ := R.frzS q
        rw [h] at h1; cases h1
        exact ⟨F', R', s, .inl ⟨d', rfl, h2⟩⟩
end
section
variable {X : Cx} {Γ : Calls} {gl : Str -> Option D} {W : WX} {n : Nat} {a b d : Expr} {ca cb cd : CE} {pos : Pos} {sa sb : List Stmt} {csa csb : CSs} {st : Stmt} {cs : CS}
theorem snd_s_nil : PSs X [] (tSs X.K Γ gl W n .nil) :=
  PSs.imp pss_nil fun E σ H ⟨x, F, δ, R, p⟩ => by
    unfold execSs at p
    exact p F H σ R (Same.refl _)
theorem PostS.seq {K : PySem.W.Frag} {x : Fx} {F : Hp} {out : Out Fl} {k : DEnv -> Out Fl} {E : Ends} {u : L2.St -> Hp -> Prop}
    (h : PostS K x W (out.bind fun f δ1 => match f with
      | .nx => k δ1
      | f => .ok f δ1) F E) (g : ∀ F1 H1 σ1 δ1, Rel K x F1 σ1 H1 δ1 -> PostS K x W (k δ1) F1 E -> u σ1 H1) : PostS K x W out F { E with nx := u } := by
  cases out with
  | no => exact h
  | ex e δ => exact h
  | ok f δ => cases f with
    | nx => exact fun F' H' σ' R s => g F' H' σ' δ R (PostS.base s h)
    | bk => exact h
    | ct => exact h
    | rt c => exact h
theorem snd_s_cons (h1 : PS X st (tS X.K Γ gl W n cs)) (h2 : PSs X sa (tSs X.K Γ gl W n csa)) : PSs X (st :: sa) (tSs X.K Γ gl W n (.cons cs csa)) :=
  PSs.imp (pss_cons h1 h2) fun E σ H ⟨x, F, δ, R, p⟩ => by
    unfold execSs at p
    exact ⟨x, F, δ, R, PostS.seq p fun F1 H1 σ1 δ1 R1 p1 => ⟨x, F1, δ1, R1, p1⟩⟩
theorem snd_s_expr (ha : PE X a (tE X.K Γ gl W ca)) (hs : swapsWith a none pos.line X.env = pure false) : PS X (.Expr a pos) (tS X.K Γ gl W n (.expr ca)) :=
  PS.imp (ps_expr ha hs) fun E σ H ⟨x, F, δ, R, p⟩ => by
    unfold execS at p
    exact ⟨x, F, δ, R, p.bindE fun r δ1 F1 H1 v R1 s1 rv p1 => p1 F1 H1 σ R1 (Same.refl _)⟩
theorem snd_s_pass : PS X (.Pass pos) (tS X.K Γ gl W n .pass) :=
  PS.imp ps_pass fun E σ H ⟨x, F, δ, R, p⟩ => by
    unfold execS at p; exact p F H σ R (Same.refl _)
theorem snd_s_brk : PS X (.Break pos) (tS X.K Γ gl W n .brk) :=
  PS.imp ps_break fun E σ H ⟨x, F, δ, R, p⟩ => by
    unfold execS at p; exact p F H σ R (Same.refl _)
theorem snd_s_cont : PS X (.Continue pos) (tS X.K Γ gl W n .cont) :=
  PS.imp ps_continue fun E σ H ⟨x, F, δ, R, p⟩ => by
    unfold execS at p; exact p F H σ R (Same.refl _)
theorem snd_s_retN : PS X (.Return none pos) (tS X.K Γ gl W n .retN) :=
  PS.imp ps_retN fun E σ H ⟨x, F, δ, R, p⟩ => by
    unfold execS at p; exact p F H σ .non R (Same.refl _) .non
theorem snd_s_ret (ha : PE X a (tE X.K Γ gl W ca)) : PS X (.Return (some a) pos) (tS X.K Γ gl W n (.ret ca)) :=
  PS.imp (ps_ret ha) fun E σ H ⟨x, F, δ, R, p⟩ => by
    unfold execS at p
    refine ⟨x, F, δ, R, p.bindE fun r δ1 F1 H1 v R1 s1 rv p1 => ?_⟩
    cases r with
    | pure d => exact p1 F1 H1 σ v R1 (Same.refl _) rv
    | own d => exact p1 F1 H1 σ v R1 (Same.refl _) rv
    | bor i =>
      have rv : σ[i]? = some (some v) := rv
      simp only [retV] at p1
      cases q : δ1[i]? with
      | none => simp only [q] at p1; exact p1.elim
      | some c =>
        cases c with
        | emp => simp only [q] at p1; exact p1.elim
        | inp _ => simp only [q] at p1; exact p1.elim
        | pure d =>
          simp only [q] at p1
          obtain ⟨w, h1, h2⟩ : SlotR X.K F1 H1 σ[i]? (.pure d) := R1.slot i _ q
          rw [rv] at h1; cases h1
          exact p1 F1 H1 σ v R1 (Same.refl _) h2
        | own d =>
          simp only [q] at p1
          obtain ⟨R2, a, h1, h2⟩ := R1.drop q
          rw [rv] at h1; cases h1
          exact p1 F1 H1 σ _ R2 (Same.refl _) ⟨a, rfl, h2⟩
theorem snd_s_if (hc : PT X a (tT X.K Γ gl W ca)) (ha : PSs X sa (tSs X.K Γ gl W n csa)) (hb : PSs X sb (tSs X.K Γ gl W n csb)) : PS X (.If a sa sb pos) (tS X.K Γ gl W n (.ifs ca csa csb)) :=
  PS.imp (ps_if hc ha hb) fun E σ H ⟨x, F, δ, R, p⟩ => by
    unfold execS at p
    refine ⟨x, F, δ, R, p.bindE fun t δ1 F1 H1 v R1 s1 rv p1 => ?_⟩
    obtain rfl : v = t := rv
    cases v with
    | true => exact ⟨x, F1, δ1, R1, p1⟩
    | false => exact ⟨x, F1, δ1, R1, p1⟩
theorem snd_s_while (hp : PassesOwn (model X.prog X.w) X.A X.env X.xe) (hc : PT X a (tT X.K Γ gl W ca)) (hb : PSs X sa (tSs X.K Γ gl W n csa)) : PS X (.While a sa [] pos) (tS X.K Γ gl W n (.whl ca csa)) :=
  PS.imp (ps_while hp hc hb) fun E σ H ⟨x, F, δ, R, p⟩ => by
    unfold execS at p
    refine ⟨fun m σ H => ∃ F1 δ, Rel X.K x F1 σ H δ ∧ Same F F1 ∧ PostS X.K x W (whileN (evalT Γ gl ca) (execSs Γ gl n csa) m δ) F1 E, ⟨n, F, δ, R, Same.refl _, p⟩, ?_⟩
    clear p R
    rintro m σ H ⟨F1, δ, R, s1, p⟩
    refine ⟨x, F1, δ, R, ?_⟩
    cases m with
    | zero => exact p.elim
    | succ m =>
      unfold whileN at p
      cases e : evalT Γ gl ca δ with
      | no => rw [e] at p; exact p.elim
      | ex ee δ1 => rw [e] at p; exact fun F' H' c d R s r => p F' H' σ c d R s r
      | ok t δ1 =>
        rw [e] at p
        intro F2 H2 t' R2 s2 et
        obtain rfl : t' = t := et
        cases t' with
        | false => exact p F2 H2 σ R2 s2
        | true =>
          refine ⟨fun σ' H' => ∃ F1 δ, Rel X.K x F1 σ' H' δ ∧ Same F F1 ∧ PostS X.K x W (whileN (evalT Γ gl ca) (execSs Γ gl n csa) m δ) F1 E, fun σ' H' z => ⟨m, Nat.lt_succ_self m, z⟩, x, F2, δ1, R2, ?_⟩
          replace p := PostS.base s2 p
          have s02 : Same F F2 := s1.trans s2
          simp only at p
          cases e2 : execSs Γ gl n csa δ1 with
          | no => rw [e2] at p; exact p.elim
          | ex ee δ1 => rw [e2] at p; exact p
          | ok f δ2 =>
            rw [e2] at p
            cases f with
            | nx => exact fun F3 H3 σ3 R3 s3 => ⟨F3, δ2, R3, s02.trans s3, PostS.base s3 p⟩
            | ct => exact fun F3 H3 σ3 R3 s3 => ⟨F3, δ2, R3, s02.trans s3, PostS.base s3 p⟩
            | bk => exact p
            | rt c => exact p
theorem snd_s_for {tg : Expr} {ct : CT} {cit : CI} (hp : PassesOwn (model X.prog X.w) X.A X.env X.xe) (hc : X.calm = true) (hi : PI X tg a (tI X.K Γ gl W cit)) (hg : PG X tg (tG X.K ct)) (hb : PSs X sa (tSs X.K Γ gl W n csa))
    (hs : ∀ x, foldedSetIterable a X.env x = pure x) : PS X (.For tg a sa [] pos) (tS X.K Γ gl W n (.fr ct cit csa)) :=
  PS.imp (ps_for hp hc hi hg hb hs) fun E σ H ⟨x, F, δ, R, p⟩ => by
    unfold execS at p
    refine ⟨x, F, δ, R, p.bindE fun ds δ1 F1 H1 J R1 s1 hJ p1 => ?_⟩
    generalize hbody : forBody ct (execSs Γ gl n csa) = body at p1
    refine ⟨fun i m σ H => ∃ F2 δ, Rel X.K x F2 σ H δ ∧ Same F1 F2 ∧ m = ds.length - i ∧ i ≤ ds.length ∧ PostS X.K x W (forLoop body (ds.drop i) δ) F2 E, ⟨ds.length, F1, δ1, R1, Same.refl _, by omega, Nat.zero_le _, p1⟩, ?_⟩
    clear p1 R1 p R
    rintro i m σ H ⟨F2, δ2, R2, s2, rfl, hle, p⟩
    by_cases hi : i < ds.length
    · refine .inr ⟨hJ.go i H (s2.trans R2.sub) hi, fun σ' H' => ∃ m', m' < ds.length - i ∧ ∃ F2 δ, Rel X.K x F2 σ' H' δ ∧ Same F1 F2 ∧ m' = ds.length - (i + 1) ∧ i + 1 ≤ ds.length ∧ PostS X.K x W (forLoop body (ds.drop (i + 1)) δ) F2 E, fun σ' H' z => z, fun v H3 hy => ?_⟩
      obtain ⟨F3, dd, g, ed, hd⟩ := hJ.yld i H v H3 F2 s2 R2.sub hi hy
      have edr : ds.drop i = dd :: ds.drop (i + 1) := by
        have h1 : ds[i]? = some dd := ed
        have h2 := List.drop_eq_getElem_cons hi
        rw [List.getElem?_eq_getElem hi] at h1
        cases h1
        exact h2
      rw [edr] at p
      replace p := PostS.base g.f p
      simp only [forLoop] at p
      have R3 := R2.grw g
      have eb : body dd δ2 = match asgD ct dd δ2 with
        | some δ2 => execSs Γ gl n csa δ2
        | none => Out.no := by rw [← hbody]; rfl
      rw [eb] at p
      cases e1 : asgD ct dd δ2 with
      | none => simp only [e1] at p; exact p.elim
      | some δ3 =>
        simp only [e1] at p
        refine ⟨x, F3, δ2, dd, δ3, R3, hd, e1, fun σ4 R4 k4 l4 => ⟨x, F3, δ3, R4, ?_⟩⟩
        have again : ∀ {F5 H5 : Hp} {σ5 : L2.St} {δ5 : DEnv}, Rel X.K x F5 σ5 H5 δ5 -> Same F3 F5 -> PostS X.K x W (forLoop body (ds.drop (i + 1)) δ5) F3 E -> ∃ m', m' < ds.length - i ∧ ∃ F2 δ, Rel X.K x F2 σ5 H5 δ ∧ Same F1 F2 ∧ m' = ds.length - (i + 1) ∧ i + 1 ≤ ds.length ∧ PostS X.K x W (forLoop body (ds.drop (i + 1)) δ) F2 E :=
          fun {F5 H5 σ5 δ5} R5 s5 p5 => ⟨ds.length - (i + 1), by omega, F5, δ5, R5, s2.trans (g.f.trans s5), rfl, hi, PostS.base s5 p5⟩
        cases e2 : execSs Γ gl n csa δ3 with
        | no => simp only [e2] at p; exact p.elim
        | ex ee δ4 => simp only [e2] at p; exact p
        | ok f δ4 =>
          cases f with
          | nx => simp only [e2] at p; exact fun F5 H5 σ5 R5 s5 => again R5 s5 p
          | ct => simp only [e2] at p; exact fun F5 H5 σ5 R5 s5 => again R5 s5 p
          | bk => simp only [e2] at p; exact p
          | rt c => simp only [e2] at p; exact p
    · have ei : i = ds.length := by omega
      subst ei
      rw [List.drop_length] at p
      simp only [forLoop] at p
      exact .inl ⟨hJ.stop H (s2.trans R2.sub), p F2 H σ R2 (Same.refl _)⟩
/-- a cell's store -/
theorem Rel.asgC {K : PySem.W.Frag} {x : Fx} {F H : Hp} {σ : L2.St} {δ : DEnv} {i : Nat} {c : Cell} {v : V} {E : Ends} (R : Rel K x F σ H δ) (h : (∃ d, c = .pure d ∧ Dat K F v d) ∨ ∃ d, c = .own d ∧ ResV K x F H σ δ v (.own d))
    (p : PostS K x W (DE.asgC i c δ) F E) : E.nx (σ.set i (some v)) H := by
  unfold DE.asgC at p
  have hc : ∀ d, c ≠ .inp d := by
    rintro d rfl
    rcases h with ⟨_, z, _⟩ | ⟨_, z, _⟩ <;> cases z
  have go : ∀ c0, δ[i]? = some c0 -> (∀ d, c0 ≠ .inp d) -> Rel K x F (σ.set i (some v)) H (δ.set i c) := fun c0 q ni => by
    rcases h with ⟨d, rfl, h⟩ | ⟨d, rfl, a, rfl, h1, h2, h3, h4⟩
    · exact R.setPure q ni h
    · exact R.set q ni hc ⟨a, rfl, h1⟩ fun _ b e => by cases e; exact ⟨h2, h3, fun j e _ z o => h4 j e z o⟩
  cases q : δ[i]? with
  | none => simp only [q] at p; exact p.elim
  | some c0 =>
    cases c0 with
    | inp _ => simp only [q] at p; exact p.elim
    | _ => simp only [q] at p; exact p F H _ (go _ q fun _ z => by cases z) (Same.refl _)
theorem asg_post {K : PySem.W.Frag} {x : Fx} {F : Hp} {σ : L2.St} {δ : DEnv} {i : Nat} {E : Ends} (p : PostS K x W (execS Γ gl n (.asg i ca) δ) F E) :
    PostG K x σ W (RV K x σ) (evalE Γ gl ca δ) F (fun v H1 => gName i v σ H1 E.nx) := by
  unfold execS at p
  refine p.bindE fun r δ1 F1 H1 v R1 s1 rv p1 => ?_
  cases e : tk r δ1 with
  | no => rw [e] at p1; exact p1.elim
  | ex ee δ2 => exact absurd e tk_nex
  | ok c δ2 =>
    rw [e] at p1
    simp only [Out.bind] at p1
    obtain ⟨F2, R2, s2, hc⟩ := R1.tk rv e
    exact R2.asgC hc (PostS.base s2 p1)
theorem snd_s_asg {i : Nat} {y : Str} {p : Pos} (nd : X.N.Nodup) (hN : X.N[i]? = some y) (hl : Loc X.env.scope y) (hf : X.fn y = true ∨ X.env.scope.names.lookup y = some .local) (ha : PE X a (tE X.K Γ gl W ca)) (hs : swapsWith a (some (.Name y p)) pos.line X.env = pure false) :
    PS X (.Assign [.Name y p] a pos) (tS X.K Γ gl W n (.asg i ca)) :=
  PS.imp (ps_set nd hN hl ha hs hf) fun E σ H ⟨x, F, δ, R, p⟩ => ⟨x, F, δ, R, asg_post p⟩
end
end DE

/-! DE15: more statements, more tests. -/
namespace DE
open PySem PySem.Spec PyProof.Rows L2
section
variable {X : Cx} {Γ : Calls} {gl : Str -> Option D} {W : WX} {n : Nat} {a b d : Expr} {ca cb cd : CE} {pos : Pos} {sa sb : List Stmt} {csa csb : CSs} {st : Stmt} {cs : CS}
/-! ### tests -/
theorem snd_tbool {c : CE} {σ : L2.St} {H : Hp} {Q : Bool -> Hp -> Prop} (hg : genT c = true) (hb : ∀ δ r δ', evalE Γ gl c δ = .ok r δ' -> ∃ b, r = .pure (.bool b)) (h : tT X.K Γ gl W c σ H Q) :
    tE X.K Γ gl W c σ H fun v H' => ∃ k, v = .bl k ∧ Q k H' := by
  obtain ⟨x, F, δ, R, p⟩ := h
  refine ⟨x, F, δ, R, ?_⟩
  rw [evalT_gen hg] at p
  cases e : evalE Γ gl c δ with
  | no => rw [e] at p; exact p.elim
  | ex ee δ1 => rw [e] at p; exact p
  | ok r δ1 =>
    rw [e] at p
    obtain ⟨b, rfl⟩ := hb _ _ _ e
    intro F' H' v R' s hv
    have hv : Dat X.K F' v (.bool b) := hv
    cases hv
    exact ⟨b, rfl, p F' H' b R' s rfl⟩
theorem cmp2_bool {o p : CmpOp} (δ : DEnv) (r : Rv) (δ' : DEnv) (h : evalE Γ gl (.cmp2 o p ca cb cd) δ = .ok r δ') : ∃ b, r = .pure (.bool b) := by
  unfold evalE at h
  cases e1 : evalE Γ gl ca δ with
  | no => rw [e1] at h; cases h
  | ex e δ1 => rw [e1] at h; cases h
  | ok r1 δ1 =>
    rw [e1] at h
    simp only [Out.bind] at h
    cases e2 : evalE Γ gl cb δ1 with
    | no => rw [e2] at h; cases h
    | ex e δ1 => rw [e2] at h; cases h
    | ok r2 δ2 =>
      rw [e2] at h
      simp only [Out.bind] at h
      split at h
      · split at h
        · cases h; exact ⟨_, rfl⟩
        · cases e3 : evalE Γ gl cd δ2 with
          | no => rw [e3] at h; cases h
          | ex e δ1 => rw [e3] at h; cases h
          | ok r3 δ3 =>
            rw [e3] at h
            simp only [Out.bind, two] at h
            split at h
            · rename_i d1 d2 _ _
              cases e4 : cmpD p d1 d2 with
              | none => rw [e4] at h; cases h
              | some b => rw [e4] at h; cases h; exact ⟨b, rfl⟩
            · cases h
        · cases h
      · cases h
theorem cmp2_read {o p : CmpOp} {σ : L2.St} {H : Hp} {Q : VK} (hp : tE X.K Γ gl W (.cmp2 o p ca cb cd) σ H Q) :
    tChain (rV2 X.K fun d e => (cmpD o d e).map fun b => .pure (.bool b)) (rV2 X.K fun d e => (cmpD p d e).map fun b => .pure (.bool b)) (tE X.K Γ gl W ca) (tE X.K Γ gl W cb) (tE X.K Γ gl W cd) σ H Q := by
  obtain ⟨x, F, δ, R, pp⟩ := hp
  unfold evalE at pp
  refine ⟨x, F, δ, R, pp.bind fun r1 δ1 F1 H1 v R1 s1 rv1 p1 => ?_⟩
  obtain ⟨F2, R2, s2, rv2⟩ := R1.settle rv1
  refine ⟨x, F2, δ1, R2, (p1.base s2).bind fun r2 δ2 F3 H3 w R3 s3 rv3 p3 => ?_⟩
  obtain ⟨F4, R4, s4, rv4⟩ := R3.settle rv3
  replace p3 := p3.base s4
  have rv1' := rv2.stay (δ' := δ2) (H' := H3) (s3.trans s4)
  cases e1 : rd δ2 (settle r1) with
  | none => simp only [e1] at p3; exact p3.elim
  | some d1 =>
    cases e2 : rd δ2 r2 with
    | none => simp only [e1, e2] at p3; exact p3.elim
    | some d2 =>
      simp only [e1, e2] at p3
      cases e3 : cmpD o d1 d2 with
      | none => simp only [e3] at p3; exact p3.elim
      | some bb =>
        refine ⟨F4, d1, d2, .pure (.bool bb), R4.sub, R4.read rv1' e1, R4.read rv4 (by rw [rd_settle]; exact e2), by show Option.map _ (cmpD o d1 d2) = _; rw [e3]; rfl, fun F5 H5 u g n => ?_⟩
        have R5 := R4.grw g
        have hu : u = .bl bb := by
          have n : Dat X.K F5 u (.bool bb) := n
          cases n; rfl
        refine ⟨bb, hu, ?_⟩
        cases bb with
        | false =>
          simp only [e3] at p3
          rw [if_neg Bool.false_ne_true]
          exact p3 F5 H5 _ R5 g.f (.bl _)
        | true =>
          simp only [e3] at p3
          rw [if_pos rfl]
          refine ⟨x, F5, δ2, R5, (p3.base g.f).bind fun r3 δ3 F6 H6 z R6 s6 rv6 p6 => ?_⟩
          exact two_of R6 (rv4.stay (δ' := δ3) (H' := H6) (g.f.trans s6)) rv6 p6
theorem snd_tcmp2 {o p : CmpOp} (hu : X.A.units + 65 < cLine) (hm : lastMarks [o, p] [b, d] = false) (ha : PE X a (tE X.K Γ gl W ca)) (hb : PE X b (tE X.K Γ gl W cb)) (hd : PE X d (tE X.K Γ gl W cd)) :
    PT X (.Compare a [o, p] [b, d] pos) (tT X.K Γ gl W (.cmp2 o p ca cb cd)) :=
  PT.imp (pt_chain (opCmp o hu) (opCmp p hu) ha hb hd hm) fun σ H Q h => cmp2_read (snd_tbool rfl cmp2_bool h)
/-! ### a comprehension's tests -/
theorem PTs.imp {X : Cx} {e : List Expr} {t t' : TT} (h : PTs X e t) (i : ∀ σ H Q, t' σ H Q -> t σ H Q) : PTs X e t' := ⟨fun pins s σ H Q I q => h.run pins s σ H Q I (i _ _ _ q)⟩
theorem snd_ifs_nil : PTs X [] (tC' X.K Γ gl W .non) :=
  PTs.imp pts_nil fun σ H Q ⟨x, F, δ, R, p⟩ => by
    unfold evalC at p; exact p F H true R (Same.refl _) rfl
theorem snd_ifs_one (h : PT X a (tT X.K Γ gl W ca)) : PTs X [a] (tC' X.K Γ gl W (.som ca)) :=
  PTs.imp (pts_one h) fun σ H Q ⟨x, F, δ, R, p⟩ => by
    unfold evalC at p; exact ⟨x, F, δ, R, p⟩
/-! ### a, b = .. -/
theorem sw_no {e : Expr} {l : Nat} {env : Env} {t : Option Expr} (h : noComp e = true) : swapsWith e t l env = pure false := by
  cases e <;> first | (simp [noComp] at h; done) | rfl
theorem sws_no {t : Expr} {e : Expr} {l : Nat} {env : Env} (h : noComp e = true) : swapsWithSole [t] e l env = pure false := by
  show swapsWith e (some t) l env = pure false
  exact sw_no h
theorem swst_no {ts : List Expr} {k : Nat} {p : Pos} {e : Expr} {env : Env} (h : noTup e = true) : swappedStores [.Tuple ts k p] e env = pure none := by
  cases e <;> first | (simp [noTup] at h; done) | rfl
theorem swst_sub {o i : Expr} {p : Pos} {e : Expr} {env : Env} : swappedStores [.Subscript o i p] e env = pure none := rfl
theorem one_each {t : Expr} {env : Env} (h : noStar t = true) : (assignEach [t] env).map (·.2) = [assign t env] := by
  rw [assign_each h]; simp only [assignEach]; rfl
theorem snd_s_asgT {ts : List Expr} {k : Nat} {p : Pos} {ct : CT} (he : noTup a = true) (hc : noComp a = true) (ha : PE X a (tE X.K Γ gl W ca)) (hg : PG X (.Tuple ts k p) (tG X.K ct)) : PS X (.Assign [.Tuple ts k p] a pos) (tS X.K Γ gl W n (.asgT ct ca)) :=
  PS.imp (ps_asg ha hg (sws_no hc) (swst_no he) (one_each rfl)) fun E σ H ⟨x, F, δ, R, pp⟩ => by
    unfold execS at pp
    refine ⟨x, F, δ, R, pp.bindE fun r δ1 F1 H1 v R1 s1 rv p1 => ?_⟩
    cases e : esc r δ1 with
    | no => rw [e] at p1; exact p1.elim
    | ex ee δ2 => exact absurd e esc_nex
    | ok dd δ2 =>
      rw [e] at p1
      simp only [Out.bind] at p1
      obtain ⟨F2, R2, s2, hd⟩ := R1.esc rv e
      replace p1 := PostS.base s2 p1
      cases e2 : asgD ct dd δ2 with
      | none => rw [e2] at p1; exact p1.elim
      | some δ3 =>
        rw [e2] at p1
        exact ⟨x, F2, δ2, dd, δ3, R2, hd, e2, fun σ' R' _ _ => p1 F2 H1 σ' R' (Same.refl _)⟩
/-! ### o[k] = .. -/
theorem asg_sub {o i : Expr} {p : Pos} {env : Env} (h : noSlice i = true) (v : Value) : assign (.Subscript o i p) env v = (do
      let ov ← holding [v] (eval o env)
      let iv ← holding [v, ov] (eval i env)
      standAt p
      holding [v, ov, iv] (setItem ov iv v)
      release [v, ov, iv] []) := by
  cases i <;> first | (simp [noSlice] at h; done) | rfl
/-- o[i] = v of a list or a dict -/
theorem set_lod (hu : X.A.units + 1 < cLine) : PSet X (fun o i v H Q => rSetL o i v H Q ∨ ∃ a H', o = .ref a ∧ DPut H a i v H' ∧ Q H') := by
  intro pins s σ H o i v ov iv u Q I ro ri rv h
  rcases h with h | ⟨a, H', rfl, g, q⟩
  · exact set_list pins s σ H o i v ov iv u Q I ro ri rv h
  · obtain rfl : ov = Value.ref a := ro
    exact d_setItem hu I g ri rv fun s' J => ⟨H', J, q⟩
theorem snd_s_seti {i : Nat} {y : Str} {k : Expr} {ck : CE} {p p2 : Pos} (hu : X.A.units + 1 < cLine) (hN : X.N[i]? = some y) (hv : Vis X.env.scope y) (h1 : (y == ("__debug__" : Str)) = false) (h2 : (y == ("__classdict__" : Str)) = false) (hk : noSlice k = true) (hc : noComp a = true)
    (hK : PE X k (tE X.K Γ gl W ck)) (ha : PE X a (tE X.K Γ gl W ca)) : PS X (.Assign [.Subscript (.Name y p) k p2] a pos) (tS X.K Γ gl W n (.seti i ck ca)) :=
  PS.imp (ps_asg ha (pg_sub (pe_var hN hv h1 h2) hK (set_lod hu) (asg_sub hk)) (sws_no hc) swst_sub (one_each rfl)) fun E σ H ⟨x, F, δ, R, pp⟩ => by
    unfold execS at pp
    refine ⟨x, F, δ, R, pp.bindE fun r δ1 F1 H1 v R1 s1 rv p1 => ?_⟩
    cases e : esc r δ1 with
    | no => rw [e] at p1; exact p1.elim
    | ex ee δ2 => exact absurd e esc_nex
    | ok dd δ2 =>
      rw [e] at p1
      simp only [Out.bind] at p1
      obtain ⟨F2, R2, s2, hd⟩ := R1.esc rv e
      replace p1 := PostS.base s2 p1
      split at p1
      · rename_i hh
        have hvo : ∃ vo, σ[i]? = some (some vo) := by
          unfold hasV at hh
          cases q : δ2[i]? with
          | none => rw [q] at hh; cases hh
          | some c =>
            have hs := R2.slot i c q
            cases c with
            | emp => rw [q] at hh; cases hh
            | pure _ => obtain ⟨w, z, _⟩ := hs; exact ⟨_, z⟩
            | own _ => obtain ⟨w, z, _⟩ := hs; exact ⟨_, z⟩
            | inp _ => obtain ⟨w, z, _⟩ := hs; exact ⟨_, z⟩
        obtain ⟨vo, hvo⟩ := hvo
        refine ⟨vo, hvo, x, F2, δ2, R2, p1.bindE fun rk δ3 F3 H3 vk R3 s3 rvk p3 => ?_⟩
        cases e3 : rd δ3 rk with
        | none => simp only [e3] at p3; exact p3.elim
        | some kd =>
          simp only [e3] at p3
          have hkd := R3.read rvk e3
          unfold setC at p3
          cases q : δ3[i]? with
          | none => simp only [q] at p3; exact p3.elim
          | some c =>
            simp only [q] at p3
            split at p3
            · rename_i oc
              cases q2 : c.rd with
              | none => simp only [q2] at p3; exact p3.elim
              | some d0 =>
                simp only [q2] at p3
                cases q3 : setD d0 kd dd with
                | none => simp only [q3] at p3; exact p3.elim
                | some d' =>
                  simp only [q3] at p3
                  have hs := R3.slot i c q
                  have own : ∃ b, σ[i]? = some (some (V.ref b)) ∧ OwnAt X.K F3 H3 b d0 := by
                    cases c with
                    | emp => cases oc
                    | pure _ => cases oc
                    | own _ => cases q2; exact hs
                    | inp _ => cases q2; exact hs
                  obtain ⟨b, hb, ho⟩ := own
                  rw [hvo] at hb; cases hb
                  cases d0 with
                  | list xs =>
                    obtain ⟨us, hus, hD⟩ := ho
                    cases kd with
                    | int ki =>
                      obtain rfl := hkd.int
                      simp only [setD] at q3
                      cases q4 : ixN xs.length ki with
                      | none => rw [q4] at q3; cases q3
                      | some j =>
                        rw [q4] at q3; cases q3
                        refine .inl ⟨b, us, ki, j, rfl, rfl, hus, by rw [hD.length]; exact q4, ?_⟩
                        exact p3 F3 _ σ (R3.mut q oc hvo ⟨us.set j v, upd_same, (hD.set (hd.mono s3) j)⟩) (Same.refl _)
                    | _ => simp only [setD] at q3; cases q3
                  | dict kvs =>
                    obtain ⟨us, hus, hD⟩ := ho
                    have q3 : (keyD kd).bind (fun k => if kvs.length < sizeLine then some (PyData.dict (putKV kvs k dd)) else none) = some d' := by cases kd <;> exact q3
                    cases ek : keyD kd with
                    | none => rw [ek] at q3; cases q3
                    | some k =>
                      rw [ek] at q3
                      simp only [Option.bind] at q3
                      split at q3
                      · rename_i hz
                        cases q3
                        obtain rfl := hkd.key ek
                        refine .inr ⟨b, _, rfl, DPut.k hus (by rw [hD.len]; exact hz), ?_⟩
                        exact p3 F3 _ σ (R3.mut q oc hvo ⟨_, upd_same, hD.put (hd.mono s3)⟩) (Same.refl _)
                      · cases q3
                  | _ => simp only [setD] at q3; cases q3
            · exact p3.elim
      · exact p1.elim
/-! ### name op= .. -/
theorem opI2 (op : Operator) : PIp X op (fun v w H Q => ∃ F d e r, Same F H ∧ RdV X.K F H v d ∧ RdV X.K F H w e ∧ augOk op d e = true ∧ binD op d e = some r ∧ ∀ F' H' u, Grw F H F' H' -> ResN X.K H F' H' u r -> Q u H') := by
  intro pins s σ H v w vv ww Q I rv rw' h
  obtain ⟨F, d, e, r, sF, hd, he, ha, hb, q⟩ := h
  have two_int : ∀ {i j : Int}, d = .int i -> e = .int j -> v = .int i ∧ w = .int j := fun e1 e2 => by
    subst e1 e2; exact ⟨hd.int, he.int⟩
  cases op with
  | Add =>
    cases d with
    | int i =>
      cases e with
      | int j =>
        obtain ⟨rfl, rfl⟩ := two_int rfl rfl
        cases hb
        exact iop_add pins s σ H _ _ vv ww Q I rv rw' ⟨i, j, rfl, rfl, fin_pure sF q rfl (.int _)⟩
      | _ => cases hb
    | str i =>
      cases e with
      | str j =>
        obtain rfl := hd.str
        obtain rfl := he.str
        simp only [binD] at hb
        split at hb
        · rename_i hz
          cases hb
          exact iop_add_str pins s σ H _ _ vv ww Q I rv rw' ⟨i, j, rfl, rfl, hz, fin_pure sF q rfl (.str _)⟩
        · cases hb
      | _ => cases hb
    | _ => cases e <;> cases ha
  | Sub =>
    cases d with
    | int i =>
      cases e with
      | int j =>
        obtain ⟨rfl, rfl⟩ := two_int rfl rfl
        cases hb
        exact iop_sub pins s σ H _ _ vv ww Q I rv rw' ⟨i, j, rfl, rfl, fin_pure sF q rfl (.int _)⟩
      | _ => cases hb
    | _ => cases hb
  | Mult =>
    cases d with
    | int i =>
      cases e with
      | int j =>
        obtain ⟨rfl, rfl⟩ := two_int rfl rfl
        simp only [binD] at hb
        split at hb
        · rename_i hz
          cases hb
          exact iop_mul pins s σ H _ _ vv ww Q I rv rw' ⟨i, j, rfl, rfl, mulOk_ok hz, fin_pure sF q rfl (.int _)⟩
        · cases hb
      | _ => cases hb
    | _ => cases e <;> cases ha
  | FloorDiv =>
    cases d with
    | int i =>
      cases e with
      | int j =>
        obtain ⟨rfl, rfl⟩ := two_int rfl rfl
        simp only [binD] at hb
        split at hb
        · rename_i hz
          cases hb
          have hz2 : CDivW i j := by
            unfold divOk at hz
            simp only [Bool.and_eq_true, decide_eq_true_eq] at hz
            exact hz
          exact iop_fdivW pins s σ H _ _ vv ww Q I rv rw' ⟨i, j, rfl, rfl, hz2, fin_pure sF q rfl (.int _)⟩
        · cases hb
      | _ => cases hb
    | _ => cases hb
  | Mod =>
    cases d with
    | int i =>
      cases e with
      | int j =>
        obtain ⟨rfl, rfl⟩ := two_int rfl rfl
        simp only [binD] at hb
        split at hb
        · rename_i hz
          cases hb
          exact iop_mod pins s σ H _ _ vv ww Q I rv rw' ⟨i, j, rfl, rfl, hz, fin_pure sF q rfl (.int _)⟩
        · cases hb
      | _ => cases hb
    | _ => cases hb
  | _ => cases d <;> cases e <;> cases ha
theorem snd_s_aug {i : Nat} {y : Str} {op : Operator} {p : Pos} (nd : X.N.Nodup) (hN : X.N[i]? = some y) (hl : Loc X.env.scope y) (hf : X.fn y = true ∨ X.env.scope.names.lookup y = some .local) (ha : PE X a (tE X.K Γ gl W ca)) :
    PS X (.AugAssign (.Name y p) op a pos) (tS X.K Γ gl W n (.aug i op ca)) :=
  PS.imp (ps_aug nd hN hl ha (opI2 op) hf) fun E σ H ⟨x, F, δ, R, p⟩ => by
    unfold execS at p
    cases q : δ[i]? with
    | none => simp only [q] at p; exact p.elim
    | some c =>
      cases c with
      | emp => simp only [q] at p; exact p.elim
      | own _ => simp only [q] at p; exact p.elim
      | inp _ => simp only [q] at p; exact p.elim
      | pure d0 =>
        simp only [q] at p
        obtain ⟨v, hv, hd⟩ : SlotR X.K F H σ[i]? (.pure d0) := R.slot i _ q
        refine ⟨v, hv, x, F, δ, R, p.bindE fun r δ1 F1 H1 w R1 s1 rv p1 => ?_⟩
        cases e : rd δ1 r with
        | none => simp only [e] at p1; exact p1.elim
        | some d1 =>
          simp only [e] at p1
          split at p1
          · rename_i ao
            cases e2 : binD op d0 d1 with
            | none => simp only [e2] at p1; exact p1.elim
            | some rr =>
              cases rr with
              | own _ => simp only [e2] at p1; exact p1.elim
              | bor _ => simp only [e2] at p1; exact p1.elim
              | pure dd =>
                simp only [e2] at p1
                refine ⟨F1, d0, d1, _, R1.sub, .inl (hd.mono s1), R1.read rv e, ao, e2, fun F2 H2 u g nn => ?_⟩
                have R2 := R1.grw g
                exact R2.asgC (.inl ⟨dd, rfl, nn⟩) (PostS.base g.f p1)
          · exact p1.elim
/-! ### what is never come to -/
theorem snd_s_nev : PS X st (tS X.K Γ gl W n .nev) :=
  PS.imp ps_never fun E σ H ⟨x, F, δ, R, p⟩ => by
    unfold execS at p; exact p.elim
/-! ### name = [..] -/
theorem snd_s_setLc {i : Nat} {y : Str} {py : Pos} {elt tg iter : Expr} {ifs : List Expr} {scope : Scope} {own : List (Str × Nat)} {p : Pos} {ce : CE} {ct : CT} {cit : CI} {cco : CO} (hc : X.calm = true) (nd : X.N.Nodup) (hN : X.N[i]? = some y) (hyl : X.env.scope.names.lookup y = some .local)
    (hsw : swapsWith (.ListComp elt [⟨tg, iter, ifs, 0⟩] scope p) (some (.Name y py)) pos.line X.env = pure true) (hi : PI X tg iter (tI X.K Γ gl W cit)) (ok : BlkOk X.N X.env.scope scope own)
    (hg : ∀ (s : Shared) (H : Hp) (C : Addr) (cl : List (Str × Addr)) (fp : List Addr), PG (X.blk s H scope (compEnvC scope cl C X.env) fp) tg (tG X.K ct))
    (ht : ∀ (s : Shared) (H : Hp) (C : Addr) (cl : List (Str × Addr)) (fp : List Addr), PTs (X.blk s H scope (compEnvC scope cl C X.env) fp) ifs (tC' X.K Γ gl W0 cco))
    (he : ∀ (s : Shared) (H : Hp) (C : Addr) (cl : List (Str × Addr)) (fp : List Addr), PE (X.blk s H scope (compEnvC scope cl C X.env) fp) elt (tE X.K Γ gl W0 ce)) (hs : ∀ z, foldedSetIterable iter X.env z = pure z) :
    PS X (.Assign [.Name y py] (.ListComp elt [⟨tg, iter, ifs, 0⟩] scope p) pos) (tS X.K Γ gl W n (.asg i (.lc ce ct cit cco (own.map (·.2))))) :=
  PS.imp (ps_setLc hc nd hN hyl hsw hi ok hg ht he hs) fun E σ H ⟨x, F, δ, R, pp⟩ => snd_lc (pos := p) hc nd hi ok hg ht he hs σ H _ ⟨x, F, δ, R, asg_post pp⟩
end
end DE

/-! DS6: a dict whose keys are tuples, filled in a loop; its keys sorted by a def. -/
namespace DE
open PySem PySem.Spec PyProof.Rows L2
def ndEnt (w : World) (x : NestedKey × Addr) : DictEntry := ⟨x.1.hash w, .ref x.2, .bool true⟩
def NdO (w : World) (a : Addr) (xs : List (NestedKey × Addr)) : HO := .ext fun h => xs.length ≤ sizeLine ∧ (a == sysModules) = false ∧ (xs.map (·.1)).Nodup ∧ ∃ es ep, h.DictRaw a es ep ∧ es.toList = xs.map (ndEnt w)
def keysO (v a : Addr) : HO := .ext fun h => PySem.W.KdlKeysView h v a
theorem hasN_iff {α : Type} {xs : List (NestedKey × α)} {k : NestedKey} : hasN xs k = true ↔ k ∈ xs.map (·.1) := by
  unfold hasN
  rw [List.any_eq_true, List.mem_map]
  refine ⟨fun ⟨x, h1, h2⟩ => ⟨x, h1, NestedKey.eq_of_beq _ _ h2⟩, fun ⟨x, h1, h2⟩ => ⟨x, h1, by rw [h2]; exact NestedKey.beq_self k⟩⟩
theorem putN_nodup {α : Type} {xs : List (NestedKey × α)} {k : NestedKey} {b : α} (h : (xs.map (·.1)).Nodup) : ((putN xs k b).map (·.1)).Nodup := by
  unfold putN
  split
  · exact h
  · rename_i z
    rw [List.map_append, List.nodup_append]
    refine ⟨h, by simp, fun x hx y hy => ?_⟩
    have hy : y = k := by simpa using hy
    rintro rfl
    subst hy
    exact z (hasN_iff.mpr hx)
theorem putN_len {α : Type} (xs : List (NestedKey × α)) (k : NestedKey) (b : α) : (putN xs k b).length ≤ xs.length + 1 := by
  unfold putN
  split
  · omega
  · simp
def trp (x : NestedKey × Addr) : NestedKey × Addr × Value := (x.1, x.2, .bool true)
theorem storedH_trp (xs : List (NestedKey × Addr)) (k : NestedKey) (b : Addr) : storedH (xs.map trp) k b (.bool true) = (putN xs k b).map trp := by
  have e : (atKey (xs.map trp) k).isSome = hasN xs k := by
    unfold atKey hasN
    rw [Option.isSome_map]
    rw [Bool.eq_iff_iff, List.find?_isSome, List.any_eq_true]
    constructor
    · rintro ⟨y, hy, he⟩
      obtain ⟨x, hx, rfl⟩ := List.mem_map.mp hy
      refine ⟨x, hx, ?_⟩
      have he : x.1 = k := of_decide_eq_true (show decide (x.1 = k) = true from he)
      rw [he]; exact NestedKey.beq_self k
    · rintro ⟨x, hx, he⟩
      exact ⟨trp x, List.mem_map_of_mem hx, (decide_eq_true (NestedKey.eq_of_beq _ _ he) : decide (x.1 = k) = true)⟩
  unfold storedH putN
  rw [e]
  split
  · rw [List.map_map]
    refine List.map_congr_left fun x _ => ?_
    show putAt k (.bool true) (trp x) = trp x
    unfold putAt trp
    split <;> rfl
  · rw [List.map_append]; rfl
section
variable {X : Cx} {pins : List (Addr × Obj)} {σ : L2.St} {H F : Hp} {s : Shared}
mutual
theorem nkey_is (I : Inv X pins σ H s) (sF : Same F H) : ∀ {v : V} {d : D} {k : NestedKey} {u : Value}, Dat X.K F v d -> nkey d = some k -> RelV v u -> NestedIs s.heap k u
  | _, _, _, _, .non, e, r => by
    simp only [nkey] at e; cases e
    obtain rfl := r
    exact .none
  | _, _, _, _, .bl b, e, r => by
    simp only [nkey] at e; cases e
    obtain rfl := r
    exact .bool rfl
  | _, _, _, _, .int i, e, r => by
    simp only [nkey] at e; cases e
    obtain ⟨t, rfl⟩ := r
    exact .int _ _
  | _, _, _, _, .str x, e, r => by
    simp only [nkey] at e; cases e
    obtain ⟨t, rfl⟩ := r
    exact .text _ _
  | _, _, _, _, .lst _ _, e, r => by simp only [nkey] at e; cases e
  | _, _, _, _, .dct _ _, e, r => by simp only [nkey] at e; cases e
  | _, _, _, _, .tup (ds := ds) h t, e, r => by
    simp only [nkey] at e
    cases q : nkeys ds with
    | none => rw [q] at e; cases e
    | some ks =>
      rw [q] at e
      cases e
      obtain rfl := r
      obtain ⟨us, rv, ⟨o, ho, hc, n, hd⟩, hz⟩ := I.tuple (sqT_mono sF h.1)
      exact .tup ho hc hd (by simpa using nkeys_is I sF t q rv)
theorem nkeys_is (I : Inv X pins σ H s) (sF : Same F H) : ∀ {vs : List V} {ds : List D} {ks : List NestedKey} {us : List Value}, DatL X.K F vs ds -> nkeys ds = some ks -> Vals vs us -> NestedAll s.heap ks us
  | _, _, _, _, .nil, e, .nil => by
    simp only [nkeys] at e; cases e
    exact .nil
  | _, _, _, _, .cons (d := d) (ds := ds) h t, e, .cons r rr => by
    simp only [nkeys] at e
    cases q : nkey d with
    | none => rw [q] at e; cases e
    | some k =>
      cases q2 : nkeys ds with
      | none => rw [q, q2] at e; cases e
      | some ks =>
        rw [q, q2] at e
        cases e
        exact .cons (nkey_is I sF h q r) (nkeys_is I sF t q2 rr)
end
def NkAt (K : PySem.W.Frag) (F : Hp) (x : NestedKey × Addr) (d : D) : Prop := Dat K F (.ref x.2) d ∧ nkey d = some x.1 ∧ x.1.depth ≤ 8
theorem NkAt.mono {K : PySem.W.Frag} {F F' : Hp} {x : NestedKey × Addr} {d : D} (e : Same F F') (h : NkAt K F x d) : NkAt K F' x d := ⟨h.1.mono e, h.2⟩
theorem nd_dict (I : Inv X pins σ H s) (sF : Same F H) {a : Addr} {xs : List (NestedKey × Addr)} {us : List (NestedKey × D)} (e : H a = some (NdO X.w a xs)) (hp : Paired (fun x u => NkAt X.K F x u.2) xs us) : s.heap.DictOfH (nestedKind X.prog X.w) a (xs.map trp) := by
  obtain ⟨⟨hz, hs, nd, es, ep, ⟨o, ho, hx, hd⟩, he⟩, _⟩ := I.hok a _ e
  refine ⟨o, es, ep, ho, hx, hd, ?_, fun y hy => ?_, by rw [List.map_map]; exact nd⟩
  · rw [he, List.map_map]; rfl
  · obtain ⟨x, hxm, rfl⟩ := List.mem_map.mp hy
    have key : ∀ {xs : List (NestedKey × Addr)} {us : List (NestedKey × D)}, Paired (fun x u => NkAt X.K F x u.2) xs us -> x ∈ xs -> ∃ d, NkAt X.K F x d := by
      intro xs us h
      induction h with
      | nil => intro z; cases z
      | cons r _ ih =>
        intro z
        rcases List.mem_cons.mp z with rfl | z
        · exact ⟨_, r⟩
        · exact ih z
    obtain ⟨d, h1, h2, h3⟩ := key hp hxm
    exact ⟨nkey_is I sF h1 h2 rfl, h3⟩
def rSetN (K : PySem.W.Frag) (w : World) : TSet := fun o i v H Q => ∃ (a b : Addr) (xs : List (NestedKey × Addr)) (us : List (NestedKey × D)) (F : Hp) (d : D) (k : NestedKey), o = .ref a ∧ i = .ref b ∧ v = .bl true ∧ H a = some (NdO w a xs) ∧ Same F H ∧ Paired (fun x u => NkAt K F x u.2) xs us ∧ NkAt K F (k, b) d ∧ xs.length < sizeLine ∧ Q (upd H a (NdO w a (putN xs k b)))
theorem set_nd (hu : X.A.units + 70 < cLine) : PSet X (rSetN X.K X.w) := by
  intro pins s σ H o i v ov iv u Q I ro ri rv h
  obtain ⟨a, b, xs, us, F, d, k, rfl, rfl, rfl, e, sF, hp, hk, hl, q⟩ := h
  obtain rfl : ov = Value.ref a := ro
  obtain rfl : iv = Value.ref b := ri
  obtain rfl : u = Value.bool true := rv
  have hz : (xs.map trp).length ≤ sizeLine := by rw [List.length_map]; omega
  obtain ⟨⟨_, hs, nd, _⟩, _⟩ := I.hok a _ e
  refine wpAny_setItem_heap (hsz := hz) (knd := nestedKind X.prog X.w) (show X.A.units + 1 + 8 < cLine by omega) (k := k) ⟨nkey_is I sF hk.1 hk.2.1 rfl, hk.2.2⟩ (nd_dict I sF e hp) fun h' hd hs' => ⟨_, ?_, q⟩
  rw [storedH_trp] at hd
  obtain ⟨o, es, ep, ho, hx, hdat, he, _, _⟩ := hd
  refine I.write (x := a) (e := a) (by rw [e]; exact True.intro) (.inl rfl) (fun b q hb z => (hs'.2 b hb).trans z) ⟨o, ho⟩ ⟨⟨?_, hs, putN_nodup nd, es, ep, ⟨o, ho, hx, hdat⟩, ?_⟩, ⟨o, ho⟩, fun h1 h2 ⟨z1, z2, z3, es, ep, z4, z5⟩ kp => ⟨z1, z2, z3, es, ep, z4.at kp, z5⟩⟩
  · have := putN_len xs k b; omega
  · rw [he, List.map_map]; rfl
/-- an empty dict, read so -/
theorem pss_lay {ss : List Stmt} {t : TS} (h : PSs X ss t) : PSs X ss (fun E σ H => ∃ p, H p = some (.dK []) ∧ t E σ (upd H p (NdO X.w p []))) := by
  refine ⟨fun pins s σ H E I ⟨p, e, q⟩ => ?_⟩
  obtain ⟨_, hs, vs, kv, hd⟩ := I.hok p _ e
  cases kv
  obtain ⟨o, es, ep, ho, hx, hdat, he, hpr, hnd⟩ := hd
  have J : Inv X pins σ (upd H p (NdO X.w p [])) s := I.write (t' := s.toks) (h' := s.heap) (x := p) (e := p) (by rw [e]; exact True.intro) (.inl rfl) (fun b q hb z => z) ⟨o, ho⟩ ⟨⟨Nat.zero_le _, hs, List.nodup_nil, es, ep, ⟨o, ho, hx, hdat⟩, ?_⟩, ⟨o, ho⟩, fun h1 h2 ⟨z1, z2, z3, es, ep, z4, z5⟩ kp => ⟨z1, z2, z3, es, ep, z4.at kp, z5⟩⟩
  · exact h.run pins s σ _ E J q
  · have z := hpr.length
    simpa using z

open PySem.W in
/-- list.sort(key=f) of a new list -/
theorem ksort_at {Γ : Calls} {f : Str} {k : Nat} {fa : Addr} {fd : FuncData} {ps : List Str} (FO : FnOk X.prog X.w X.K X.mg X.base (L2.CX X.prog X.w) k fa fd ps (spD X.K Γ f)) (hr : Room k X.A.in1.in1) (hb : Binds X.K fd ps [])
    {a : Addr} {its : List Value} {vs : List V} {ds kds : List D} {Q : VK} {E : Value → Shared → Prop} (I : Inv X pins σ H s) (ga : FpOk X pins H a) (ho : s.heap.get? a = some (seqObj "list" its.toArray 0)) (sF : Same F H) (hD : DatL X.K F vs ds) (rv : Vals vs its)
    (keys : ∀ (i : Nat) (d : D), ds[i]? = some d -> ∃ kd outs, kds[i]? = some kd ∧ Γ f [.pure d] = .ret (.pure kd) outs) (hlen : kds.length = ds.length) (hal : AllAlike kds) (hsk : Sortable kds) (hpl : PyData.plainAll kds = true) (hu : ∀ kd, kd ∈ kds -> X.A.in1.in1.units + kd.depth < cLine) (hZ : its.length ≤ sizeLine)
    (q : ∀ (F' H' : Hp) (u : V), Grw F H F' H' -> ResN X.K H F' H' u (.own (.list (srtK ds kds))) -> Q u H') :
    wpAny (model X.prog X.w) X.A.in1.in1 (Builtin.«list.sort» ⟨[.ref a], [(Str.ofString "key", .ref fa)]⟩) (fun g s' => g = .done (.ret .none) ∧ EP X pins σ Q (.ref a) s') E s := by
  rw [ksk_t1]
  obtain ⟨e1, ho1⟩ : ∃ e1, (s.heap.update a (Obj.mapSeq fun _ => (#[] : Array Value))).get? a = some (seqObj "list" #[] e1) := ⟨_, get?_update_seq ho fun _ => #[]⟩
  have hal1 : a < s.heap.objs.size := Heap.lt_size ho
  have hkS : ((s.heap.update a (Obj.mapSeq fun _ => (#[] : Array Value))).push (seqObj "tuple" its.toArray 0)).objs.size = s.heap.objs.size + 1 := by rw [size_push', Heap.size_update]
  unfold ksk_tree
  refine wpAny_bind (listItems_at ho rfl ?_)
  refine wpAny_bind (listUpdate_at ho rfl ?_ (by rw [List.size_toArray]; exact hZ) (Nat.zero_le _))
  refine wpAny_bind (seqEpoch_at ho1 rfl ?_)
  refine wpAny_bind (wpAny_newTuple ?_ (by show its.length ≤ _; exact hZ))
  refine wpAny_bind (wpAny_newList ?_ (Nat.zero_le _))
  refine wpAny_holding ?_
  have s1 := Heap.SameBut.update s.heap a (Obj.mapSeq fun _ => (#[] : Array Value))
  have I1 : Inv X pins σ H { s with heap := ((s.heap.update a (Obj.mapSeq fun _ => (#[] : Array Value))).push (seqObj "tuple" its.toArray 0)).push (seqObj "list" #[] 0) } := I.turnedL (t' := s.toks) (ch := [a]) (fun b o hb e =>
    Heap.get?_push_of_some _ (Heap.get?_push_of_some _ ((s1.2 b (fun z => hb (by rw [z]; exact List.mem_singleton.mpr rfl))).trans e))) fun b hb => by rw [List.mem_singleton.mp hb]; exact ga
  have hk2 : s.heap.objs.size ≤ ((s.heap.update a (Obj.mapSeq fun _ => (#[] : Array Value))).push (seqObj "tuple" its.toArray 0)).objs.size := by rw [hkS]; omega
  have hne : ((s.heap.update a (Obj.mapSeq fun _ => (#[] : Array Value))).push (seqObj "tuple" its.toArray 0)).objs.size ≠ a := by
    rw [hkS]
    exact Nat.ne_of_gt (Nat.lt_succ_of_lt hal1)
  refine ksrt_rest FO hr hb (kds := kds) I1 ga (I.fpOk hk2 (I.hok.fresh hk2)) (Heap.get?_push_size _ rfl) (Heap.get?_push_of_some _ (Heap.get?_push_of_some _ ho1)) hne sF hD rv keys hlen hal hsk hpl hu hZ
    fun F' H' s' out c J ga' g hout ko => ⟨rfl, ?_⟩
  have eb : (ds.zip kds).map (·.2) = kds := by rw [List.map_snd_zip]; omega
  have ez := keyedOut_each (bs := ds.zip kds) (fun p : D × D => p.2) (rev := false) (vs := its) (out := out) (by rw [eb]; exact ko) (each_zip (hD.mono g.f) rv hlen)
  obtain ⟨ws, rw', hw⟩ := each_back ez
  have hsz : ws.length ≤ sizeLine := by
    rw [rw'.length, ko.length (by rw [hlen, ← hD.length, rv.length])]; exact hZ
  have J2 := Inv.lay (o := .lst ws) J ga' ⟨hsz, out, c, rw', hout⟩
  have hn : H a = none := ga.1
  refine ⟨.ref a, upd H' a (.lst ws), J2, rfl, q F' _ _ ⟨g.f, same_updR g.s (g.s.free ga'.1), fun b o e => ?_, g.n⟩ ⟨a, rfl, ⟨ws, upd_same, hw⟩, g.s.free ga'.1, hn⟩⟩
  rw [upd_ne (ne_of_none e hn)]
  exact g.h b o e
/-- found.keys() -/
theorem pe_nkeys {i : Nat} {y : Str} {p apos cpos : Pos} (hN : X.N[i]? = some y) (hv : Vis X.env.scope y) (h1 : (y == ("__debug__" : Str)) = false) (h2 : (y == ("__classdict__" : Str)) = false) (hline : (apos.endLine == cpos.line) = true) :
    PE X (.Call (.Attribute (.Name y p) "keys" apos) [] [] cpos) (fun σ H Q => ∃ a xs, σ[i]? = some (some (.ref a)) ∧ H a = some (NdO X.w a xs) ∧ ∀ v, H v = none -> Q (.ref v) (upd H v (keysO v a))) := by
  refine ⟨fun pins s σ H Q I ⟨a, xs, e1, e2, q⟩ => ?_⟩
  refine wpAny_Call_method (T := "dict") (id := "dict.keys") rfl rfl hline PySem.F.plainAttrs_dict PySem.F.slot_dict_keys PySem.F.type_dict_keys (thn ((pe_var hN hv h1 h2).run pins s σ H (fun v H' => v = .ref a ∧ H' = H) I ⟨.ref a, e1, rfl, rfl⟩) fun u s1 ⟨x, H1, I1, rx, ex, eH⟩ => ?_)
  subst ex eH
  obtain rfl : u = Value.ref a := rx
  obtain ⟨⟨_, hs, _, es, ep, hr, _⟩, _⟩ := I1.hok a _ e2
  refine ⟨hr.typeIs, ?_, ?_⟩
  · obtain ⟨o, ho, hx, _⟩ := hr
    exact fun b eb => by cases eb; exact ⟨o, ho, hx.2.1⟩
  · show wpAny _ _ (callWith cpos (.builtin "dict.keys") [.ref a] [] []) _ X.xe s1
    refine method_meetsIn PySem.F.slot_dict_keys PySem.F.entry_dict_keys rfl (PySem.evalArgs_none ⟨rfl, hr.typeIs, PySem.F.args_dict_keys_1 _, _, PySem.meets_dict_keys_raw a hs, ⟨es, ep, hr⟩, ?_⟩)
    have J := I1.laid (a := s1.heap.objs.size) (o := keysO s1.heap.objs.size a) (h' := s1.heap.push { cls := .type "dict_keys", data := .fields #[.ref a] }) (t' := s1.toks) (fun b o e => Heap.get?_push_of_some _ e) (Nat.le_refl _)
      ⟨⟨_, Heap.get?_push_size _ rfl, rfl, rfl⟩, ⟨_, Heap.get?_push_size _ rfl⟩, fun g1 g2 ⟨o, ho, hr⟩ kp => ⟨o, kp o ho, hr⟩⟩
    exact ⟨.ref s1.heap.objs.size, _, J, rfl, q _ (I1.hok.fresh (Nat.le_refl _))⟩
theorem vals_refsN : ∀ xs : List (NestedKey × Addr), Vals (xs.map fun x => V.ref x.2) (xs.map fun x => Value.ref x.2)
  | [] => .nil
  | x :: r => .cons rfl (vals_refsN r)
def rNsrt (K : PySem.W.Frag) (w : World) (Γ : Calls) (f : Str) (fa : Addr) : List V -> List V -> Hp -> VK -> Prop := fun vs zs H Q => zs = [.ref fa] ∧ ∃ v a xs ds F y, vs = [.ref v] ∧ H v = some (keysO v a) ∧ H a = some (NdO w a xs) ∧ Same F H ∧ DatL K F (xs.map fun x => V.ref x.2) ds ∧ srtD Γ f (.list ds) = some y ∧
  ∀ F' H' u, Grw F H F' H' -> ResN K H F' H' u y -> Q u H'
theorem cr_nsrt {Γ : Calls} {f : Str} {k : Nat} {fa : Addr} {fd : FuncData} {ps : List Str} (hc : X.calm = true) (hu : X.A.units + 70 < cLine) (FO : FnOk X.prog X.w X.K X.mg X.base (L2.CX X.prog X.w) k fa fd ps (spD X.K Γ f)) (hr : Room k X.A.in1.in1) (hb : Binds X.K fd ps []) :
    CallRK X (.builtin "sorted") [Str.ofString "key"] (rNsrt X.K X.w Γ f fa) := by
  intro pins s σ H vs zs us ws Q I r rz h
  obtain ⟨rfl, v, a, xs, ds, F, y, rfl, e1, e2, sF, hD, e, q⟩ := h
  simp only [srtD] at e
  cases ek : keysD Γ f ds with
  | none => rw [ek] at e; cases e
  | some ks =>
    rw [ek] at e
    simp only at e
    split at e
    · rename_i hk
      cases e
      obtain ⟨h1, h2, h3, h4⟩ := okKeys_of hk
      obtain ⟨hlen, keys⟩ := keysD_get ek
      rw [Vals.ref1 r]
      obtain rfl := Vals.ref1 rz
      obtain ⟨⟨hz, hs, nd, es, ep, hraw, he⟩, _⟩ := I.hok a _ e2
      obtain ⟨hview, _⟩ := I.hok v _ e1
      have les : es.size = xs.length := by rw [← Array.length_toList, he, List.length_map]
      refine PyProof.Rows.call_function_entry_kw PyProof.Rows.kind_sorted PyProof.Rows.plain_sorted PyProof.Rows.entry_sorted (ksk_s1 _ _) ?_
      unfold Builtin.«sorted»
      refine wpAny_bind (m := checkCount "sorted" 1 1 _) (wpAny_pure ?_)
      refine wpAny_bind (PySem.W.kdu_collect (A := X.A.in1) (PySem.KdlSrc.rawKeys (r := v) (d := a) (es := es) (ep := ep)) (I.ok.hd hc) ⟨hview, hraw⟩ (by omega) fun h' tk acc hk' hacc => ?_)
      have la : acc.toList.length = xs.length := by rw [Array.length_toList, hacc.1, les]
      refine wpAny_bind (wpAny_newList ?_ (by omega))
      have eacc : acc.toList = xs.map fun x => Value.ref x.2 := by
        refine List.ext_getElem? fun j => ?_
        by_cases hj : j < xs.length
        · have hja : j < acc.size := by rw [← Array.length_toList, la]; exact hj
          obtain ⟨hi, z⟩ := hacc.2 j acc[j] (by simp [hja])
          have z2 : es.toList[j]? = (xs.map (ndEnt X.w))[j]? := by rw [he]
          rw [Array.getElem?_toList, Array.getElem?_eq_getElem hi, List.getElem?_map, List.getElem?_eq_getElem hj] at z2
          have z3 : es[j] = ndEnt X.w xs[j] := Option.some.inj z2
          rw [Array.getElem?_toList, Array.getElem?_eq_getElem hja, z, z3, List.getElem?_map, List.getElem?_eq_getElem hj]
          rfl
        · rw [List.getElem?_eq_none (by omega), List.getElem?_eq_none (by rw [List.length_map]; omega)]
      have rvs : Vals (xs.map fun x => V.ref x.2) acc.toList := by
        rw [eacc]
        exact vals_refsN xs
      have hk' : ∀ b o, s.heap.get? b = some o -> h'.get? b = some o := hk'
      have I2 : Inv X pins σ H { s with heap := h', toks := tk } := I.kept (t' := tk) hk'
      have hob : (h'.push { cls := .type "list", data := .seq acc.toList.toArray }).get? h'.objs.size = some (seqObj "list" acc.toList.toArray 0) := Heap.get?_push_size _ rfl
      have I3 : Inv X pins σ H { s with heap := h'.push { cls := .type "list", data := .seq acc.toList.toArray }, toks := tk } := I2.kept (t' := tk) fun b o e => Heap.get?_push_of_some _ e
      have n1 : H h'.objs.size = none := I2.hok.fresh (Nat.le_refl _)
      have ga3 : FpOk X pins H h'.objs.size := I2.fpOk (Nat.le_refl _) n1
      refine wpAny_bind (wpAny_holding (wpAny_call_entry_kw PyProof.Rows.slot_list_sort ⟨_, hob, rfl⟩ PyProof.Rows.entry_list_sort ?_ (ksk_l1 _ _)))
      refine wpAny_mono (ksort_at FO hr hb (s := { s with heap := h'.push { cls := .type "list", data := .seq acc.toList.toArray }, toks := tk }) I3 (by exact ga3) hob sF hD rvs keys hlen h2 h3 h1 (fun kd hkd => by have := h4 kd hkd; show X.A.units + 1 + 1 + kd.depth < cLine; omega) (by omega) q) (fun g s' ⟨eg, hq⟩ => ?_) fun _ _ e => e
      subst eg
      exact ⟨_, rfl, wpAny_pure ⟨_, rfl, hq⟩⟩
    · cases e
end

/-! ### the loop -/
theorem isEmp_iff {δ : DEnv} {i : Nat} (h : isEmp δ i = true) : δ[i]? = some .emp := by
  unfold isEmp at h
  split at h
  · assumption
  · cases h
theorem ddD_cons {d : D} {r : List D} {acc us : List (NestedKey × D)} (h : ddD (d :: r) acc = some us) : ∃ xs k, d = .tuple xs ∧ nkey d = some k ∧ k.depth ≤ 8 ∧ acc.length < sizeLine ∧ ddD r (putN acc k d) = some us := by
  unfold ddD at h
  split at h
  · rename_i xs k e
    split at h
    · rename_i z
      exact ⟨xs, k, rfl, e, z.1, z.2, h⟩
    · cases h
  · cases h
section
variable {K : PySem.W.Frag} {x : Fx} {F H : Hp} {σ : L2.St} {δ : DEnv}
theorem set_emp {i : Nat} (q : δ[i]? = some .emp) : δ.set i .emp = δ := by
  refine List.ext_getElem? fun j => ?_
  by_cases h : j = i
  · subst h
    rw [List.getElem?_set_self (List.getElem?_eq_some_iff.mp q).1, q]
  · rw [List.getElem?_set_ne (Ne.symm h)]
/-- an empty slot may hold anything -/
theorem Rel.setEmp (R : Rel K x F σ H δ) {i : Nat} (v : V) (q : δ[i]? = some .emp) : Rel K x F (σ.set i (some v)) H δ := by
  have z := R.set (c := .emp) (v := v) q (fun _ h => by cases h) (fun _ h => by cases h) trivial fun h => by cases h
  rw [set_emp q] at z
  exact z
/-- a slot is forgotten -/
theorem Rel.forget (R : Rel K x F σ H δ) {i : Nat} (ni : ∀ d, δ[i]? ≠ some (.inp d)) : Rel K x F σ H (δ.set i .emp) := by
  refine ⟨by rw [List.length_set]; exact R.len, R.sub, R.frm, R.f0, R.ext, fun j c z => ?_, fun j c b z o w => ?_, fun j k c e b njk z1 o1 z2 o2 w => ?_, fun p hp => ?_, fun j e z => ?_⟩
  · rcases set_get z with ⟨rfl, rfl, _⟩ | ⟨nj, z⟩
    · trivial
    · exact R.slot j c z
  · rcases set_get z with ⟨rfl, rfl, _⟩ | ⟨nj, z⟩
    · cases o
    · exact R.own j c b z o w
  · rcases set_get z1 with ⟨rfl, rfl, _⟩ | ⟨nj, z1⟩
    · cases o1
    · rcases set_get z2 with ⟨rfl, rfl, _⟩ | ⟨nk, z2⟩
      · cases o2
      · exact R.sep j k c e b njk z1 o1 z2 o2 w
  · obtain ⟨h1, e, h2⟩ := R.par p hp
    refine ⟨h1, e, ?_⟩
    rw [List.getElem?_set_ne]
    · exact h2
    · rintro rfl; exact ni e h2
  · rcases set_get z with ⟨rfl, h, _⟩ | ⟨nj, z⟩
    · cases h
    · exact R.inp j e z
theorem Beside.forget {p : Addr} {o : HO} (b : Beside x F H σ δ p o) (i : Nat) : Beside x F H σ (δ.set i .emp) p o :=
  ⟨b.at_, b.nF, b.nG, fun j c h oc => by
    rcases set_get h with ⟨rfl, rfl, _⟩ | ⟨nj, z⟩
    · cases oc
    · exact b.ns j c z oc⟩
end
theorem pairedN_put {P : NestedKey × Addr -> NestedKey × D -> Prop} (hP : ∀ x u, P x u -> x.1 = u.1) {k : NestedKey} {b : Addr} {d : D} (hk : P (k, b) (k, d)) {xs : List (NestedKey × Addr)} {us : List (NestedKey × D)} (h : Paired P xs us) : Paired P (putN xs k b) (putN us k d) := by
  have e : xs.map (·.1) = us.map (·.1) := by
    induction h with
    | nil => rfl
    | cons r _ ih => rw [List.map_cons, List.map_cons, ih, hP _ _ r]
  have e2 : hasN xs k = hasN us k := by
    rw [Bool.eq_iff_iff, hasN_iff, hasN_iff, e]
  unfold putN
  rw [e2]
  split
  · exact h
  · have app : ∀ {xs : List (NestedKey × Addr)} {us : List (NestedKey × D)}, Paired P xs us -> Paired P (xs ++ [(k, b)]) (us ++ [(k, d)]) := by
      intro xs us h
      induction h with
      | nil => exact .cons hk .nil
      | cons r _ ih => exact .cons r ih
    exact app h
theorem pairedN_dat {K : PySem.W.Frag} {F : Hp} {xs : List (NestedKey × Addr)} {us : List (NestedKey × D)} (h : Paired (fun x u => x.1 = u.1 ∧ NkAt K F x u.2) xs us) : DatL K F (xs.map fun x => V.ref x.2) (us.map (·.2)) := by
  induction h with
  | nil => exact .nil
  | cons r _ ih => exact .cons r.2.1 ih
section
variable {Γ : Calls} {gl : Str -> Option D} {W : WX} {n : Nat}
theorem snd_ddk {i j : Nat} {y z f : Str} {it : Expr} {cit : CI} {p1 p2 p3 p4 p5 p6 p7 p8 p9 q1 q2 q3 q4 q5 q6 q7 q8 : Pos} {jk : Nat} {p10 : Pos} (hu : X.A.units + 70 < cLine) (hp : PassesOwn (model X.prog X.w) X.A X.env X.xe) (hc : X.calm = true) (nd : X.N.Nodup)
    (hy : X.N[i]? = some y) (hly : Loc X.env.scope y) (hfy : X.fn y = true ∨ X.env.scope.names.lookup y = some .local) (hvy : Vis X.env.scope y) (hy1 : (y == ("__debug__" : Str)) = false) (hy2 : (y == ("__classdict__" : Str)) = false)
    (hz : X.N[j]? = some z) (hlz : Loc X.env.scope z) (hfz : X.fn z = true ∨ X.env.scope.names.lookup z = some .local) (hvz : Vis X.env.scope z) (hz1 : (z == ("__debug__" : Str)) = false) (hz2 : (z == ("__classdict__" : Str)) = false)
    (hi : PI X (.Name z p4) it (tI X.K Γ gl W cit)) (hs : ∀ x, foldedSetIterable it X.env x = pure x) (C : CallOk Γ X f) (hg : Gl X "sorted") (hm : X.mg "sorted" = none) (hgf : Gl X f) (hdf : (f == ("__debug__" : Str)) = false) (hline : (q3.endLine == q4.line) = true) :
    PSs X [.Assign [.Name y p1] (.Dict [] [] p2) p3, .For (.Name z p4) it [.Assign [.Subscript (.Name y p5) (.Name z p6) p7] (.Constant (.bool true) jk p8) p9] [] q1,
      .Return (some (.Call (.Name "sorted" q2) [.Call (.Attribute (.Name y p10) "keys" q3) [] [] q4] [⟨some "key", .Name f q5, q6⟩] q7)) q8]
      (fun E σ H => ∃ x F δ, Rel X.K x F σ H δ ∧ PostS X.K x W (ddkE Γ gl i j cit f δ) F E) := by
  obtain ⟨kk, fa, fd, ps, ⟨_, rm⟩, hmf, kp, hb, FO⟩ := C
  have hf : PE X (.Name f q5) (tC (.ref fa)) := pe_glob hgf hmf (show RelV (.ref fa) (.ref fa) from rfl) hdf
  have hret : PE X (.Call (.Name "sorted" q2) [.Call (.Attribute (.Name y p10) "keys" q3) [] [] q4] [⟨some "key", .Name f q5, q6⟩] q7) _ := pe_callBK (cr_nsrt (Γ := Γ) (f := f) hc hu FO rm hb) hg hm (by decide +kernel) (pa_cons (pe_nkeys (p := p10) hy hvy hy1 hy2 hline) pa_nil rfl) (pk_cons hf pk_nil) (by decide) (by decide) rfl rfl
  refine PSs.imp (pss_cons (ps_set nd hy hly pe_dnewK rfl hfy) (pss_lay (pss_cons (ps_for hp hc hi (snd_nm nd hz hlz hfz) (pss_cons (ps_asg pe_bl (pg_sub (pe_var hy hvy hy1 hy2) (pe_var hz hvz hz1 hz2) (set_nd hu)) rfl rfl rfl) pss_nil) hs) (pss_cons (ps_ret hret) pss_nil)))) fun E σ H ⟨x, F, δ, R, p⟩ => ?_
  unfold ddkE at p
  by_cases h0 : (isEmp δ i && (isEmp δ j && decide (i ≠ j))) = true
  case neg => rw [if_neg h0] at p; exact p.elim
  rw [if_pos h0] at p
  simp only [Bool.and_eq_true, decide_eq_true_eq] at h0
  obtain ⟨ei, ej, hij⟩ := h0
  replace ei := isEmp_iff ei
  replace ej := isEmp_iff ej
  cases ev : evalI Γ gl cit δ with
  | no => rw [ev] at p; exact p.elim
  | ex e δ1 => rw [ev] at p; exact p.elim
  | ok ds δ1 =>
    rw [ev] at p
    simp only at p
    by_cases h1 : (isEmp δ1 i && isEmp δ1 j) = true
    case neg => rw [if_neg h1] at p; exact p.elim
    rw [if_pos h1] at p
    rw [Bool.and_eq_true] at h1
    obtain ⟨ei1, ej1⟩ := h1
    replace ei1 := isEmp_iff ei1
    replace ej1 := isEmp_iff ej1
    cases ed : ddD ds [] with
    | none => rw [ed] at p; exact p.elim
    | some usF =>
      rw [ed] at p
      simp only at p
      cases es : srtD Γ f (.list (usF.map (·.2))) with
      | none => rw [es] at p; exact p.elim
      | some y0 =>
        rw [es] at p
        cases y0 with
        | pure _ => exact p.elim
        | bor _ => exact p.elim
        | own dr =>
          simp only at p
          intro q nq
          refine ⟨q, upd_same, ?_⟩
          rw [upd_upd]
          have nG := R.nG nq
          have nF := R.nF nq
          have n0 : x.F0 q = none := R.f0.free nF
          have R0 : Rel X.K x F (σ.set i (some (.ref q))) (upd H q (NdO X.w q [])) δ := (R.beside _ nq).setEmp _ ei
          have hiσ : i < σ.length := by rw [R.len]; exact (List.getElem?_eq_some_iff.mp ei).1
          have B0 : Beside x F (upd H q (NdO X.w q [])) (σ.set i (some (.ref q))) δ q (NdO X.w q []) := ⟨upd_same, nF, nG, fun k c h oc zz => by
            by_cases hk : k = i
            · subst hk; rw [ei] at h; cases h; cases oc
            · rw [List.getElem?_set_ne (Ne.symm hk)] at zz
              obtain ⟨b, e1, u, e2⟩ := (R.slot k c h).ownA oc
              rw [zz] at e1; cases e1
              rw [nq] at e2; cases e2⟩
          have es0 : (σ.set i (some (V.ref q)))[i]? = some (some (.ref q)) := List.getElem?_set_self hiσ
          refine ⟨x.with q (NdO X.w q []), F, δ, R0.addG B0, ?_⟩
          rw [ev]
          intro F1 H1 J R1' s1 hJ
          obtain ⟨R1, B1⟩ := R1'.delG n0 nG
          refine ⟨fun t m σ' H' => ∃ F2 xs us, Rel X.K x F2 σ' H' δ1 ∧ Beside x F2 H' σ' δ1 q (NdO X.w q xs) ∧ σ'[i]? = some (some (.ref q)) ∧ Paired (fun x u => x.1 = u.1 ∧ NkAt X.K F2 x u.2) xs us ∧ Same F1 F2 ∧ m = ds.length - t ∧ t ≤ ds.length ∧ ddD (ds.drop t) us = some usF,
            ⟨ds.length, F1, [], [], R1, B1, es0, .nil, Same.refl _, by omega, Nat.zero_le _, ed⟩, ?_⟩
          rintro t m σ2 H2 ⟨F2, xs, us, R2, B2, es2, hpr, s2, rfl, hle, hdd⟩
          have hlen : xs.length = us.length := Paired.length hpr
          by_cases ht : t < ds.length
          · refine .inr ⟨hJ.go t H2 (s2.trans R2.sub) ht, fun σ' H' => ∃ m', m' < ds.length - t ∧ ∃ F2 xs us, Rel X.K x F2 σ' H' δ1 ∧ Beside x F2 H' σ' δ1 q (NdO X.w q xs) ∧ σ'[i]? = some (some (.ref q)) ∧ Paired (fun x u => x.1 = u.1 ∧ NkAt X.K F2 x u.2) xs us ∧ Same F1 F2 ∧ m' = ds.length - (t + 1) ∧ t + 1 ≤ ds.length ∧ ddD (ds.drop (t + 1)) us = some usF, fun σ' H' w => w, fun v H3 hy3 => ?_⟩
            obtain ⟨F3, dd, g, edd, hd⟩ := hJ.yld t H2 v H3 F2 s2 R2.sub ht hy3
            have edr : ds.drop t = dd :: ds.drop (t + 1) := by
              have h1 : ds[t]? = some dd := edd
              have h2 := List.drop_eq_getElem_cons ht
              rw [List.getElem?_eq_getElem ht] at h1
              cases h1
              exact h2
            rw [edr] at hdd
            obtain ⟨tx, k, rfl, hnk, hdp, hsz, hdd⟩ := ddD_cons hdd
            have R3 := R2.grw g
            have B3 := B2.grw g
            refine ⟨x.with q (NdO X.w q xs), F3, δ1, _, δ1.set j (.pure (.tuple tx)), R3.addG B3, hd, by simp only [asgD, ej1], fun σ4 R4' k4 l4 => ?_⟩
            obtain ⟨R4, B4⟩ := R4'.delG n0 nG
            have es4 : σ4[i]? = some (some (.ref q)) := by rw [k4 i (by simpa [CT.slots] using hij)]; exact es2
            have ejs : (δ1.set j (.pure (.tuple tx)))[j]? = some (.pure (.tuple tx)) := List.getElem?_set_self (List.getElem?_eq_some_iff.mp ej1).1
            obtain ⟨v4, ev4, hv4⟩ : SlotR X.K F3 H3 σ4[j]? (.pure (.tuple tx)) := R4.slot j _ ejs
            obtain ⟨b, rfl⟩ : ∃ b, v4 = .ref b := by cases hv4; exact ⟨_, rfl⟩
            obtain ⟨R5, B5⟩ := R4.updB (o' := NdO X.w q (putN xs k b)) B4
            have R6 := R5.forget (i := j) fun d w => by rw [ejs] at w; cases w
            have B6 := B5.forget j
            have eδ : (δ1.set j (.pure (.tuple tx))).set j .emp = δ1 := by rw [List.set_set, set_emp ej1]
            rw [eδ] at R6 B6
            have hpr3 : Paired (fun x u => x.1 = u.1 ∧ NkAt X.K F3 x u.2) xs us := Paired.mapP hpr fun a b h => ⟨h.1, h.2.mono g.f⟩
            have hk3 : NkAt X.K F3 (k, b) (.tuple tx) := ⟨hv4, hnk, hdp⟩
            refine ⟨.ref q, es4, .ref b, ev4, q, b, xs, us, F3, .tuple tx, k, rfl, rfl, rfl, B4.at_, R4.sub, Paired.mapP hpr3 fun a b h => h.2, hk3, by omega, ?_⟩
            exact ⟨ds.length - (t + 1), by omega, F3, putN xs k b, putN us k (.tuple tx), R6, B6, es4, pairedN_put (fun _ _ h => h.1) ⟨rfl, hk3⟩ hpr3, s2.trans g.f, rfl, ht, hdd⟩
          · have et : t = ds.length := by omega
            subst et
            rw [List.drop_length] at hdd
            simp only [ddD] at hdd
            cases hdd
            refine .inl ⟨hJ.stop H2 (s2.trans R2.sub), ?_⟩
            refine ⟨q, xs, es2, B2.at_, fun v nv => ?_⟩
            have Rv := R2.beside (keysO v q) nv
            refine ⟨rfl, v, q, xs, usF.map (·.2), F2, .own dr, rfl, upd_same, ?_, Rv.sub, pairedN_dat hpr, es, fun F' H' u g nn => ?_⟩
            · rw [upd_ne (ne_of_none B2.at_ nv)]; exact B2.at_
            · exact p F' H' _ u (Rv.grw g) (s1.trans (s2.trans g.f)) (Rv.resN nn)
end
end DE

/-! DS9: exceptions: raise, try with its exception kept, isinstance of own classes. -/
namespace DE
open PySem PySem.Spec PyProof.Rows L2
section
variable {X : Cx} {pins : List (Addr × Obj)} {σ : L2.St} {H : Hp} {s : Shared}
/-- an object that was not there at the entry is laid open -/
theorem Inv.layX {a : Addr} {o : HO} (J : Inv X pins σ H s) (g0 : H a = none) (g1 : a ≠ X.env.locals) (g3 : X.s_0.heap.get? a = none) (g4 : ∀ x c, X.env.cells.lookup x = some c -> c ≠ a) (g5 : ∀ p ∈ X.pn ++ pins, p.1 ≠ a) (new : ObjOk X.prog X.w (upd H a o) s.heap a o) : Inv X pins σ (upd H a o) s := by
  refine ⟨J.ok, J.os, J.bare, ⟨J.base.keep, J.base.slot, fun b ob e n hx => ?_, J.base.there, fun b xs e => ?_, fun b ob u e => ?_, fun b ps e => ?_⟩, J.loc, J.cell, ?_, fun y c e => ?_, fun p hp => ?_, HOk.laidN J.hok (fun _ _ e => e) g0 new, J.len⟩
  · rw [upd_ne (fun z => by rw [z, g3] at e; cases e)]
    exact J.base.free b ob e n hx
  · have w := J.base.tups b xs e
    rw [upd_ne (ne_of_none w g0)]; exact w
  · have w := J.base.frzs b ob u e
    rw [upd_ne (ne_of_none w g0)]; exact w
  · obtain ⟨more, w⟩ := J.base.tbls b ps e
    exact ⟨more, by rw [upd_ne (ne_of_none w g0)]; exact w⟩
  · rw [upd_ne (Ne.symm g1)]; exact J.free
  · rw [upd_ne (g4 y c e)]; exact J.freeC y c e
  · obtain ⟨e, n, ne, nf, d⟩ := J.pin p hp
    exact ⟨e, by rw [upd_ne (g5 p hp)]; exact n, ne, nf, d⟩
theorem Inv.unsuite2 {a : Addr} {q : Addr × Obj} {pn' : List (Addr × Obj)} (I : Inv (X.suite a (q :: (X.pn ++ pins))) pn' σ H s) (ok : X.Ok) : Inv X (q :: pins) σ H s :=
  ⟨ok, I.os, I.bare, I.base, I.loc, I.cell, I.free, I.freeC, fun p hp => I.pin p (List.mem_append_left _ (by
    rcases List.mem_append.mp hp with z | z
    · exact List.mem_cons_of_mem _ (List.mem_append_left _ z)
    · rcases List.mem_cons.mp z with z | z
      · rw [z]; exact List.mem_cons_self ..
      · exact List.mem_cons_of_mem _ (List.mem_append_right _ z))), I.hok, I.len⟩
theorem cxO_ok {P : Program} {w : World} {h : Heap} {a : Addr} {cls : Value} {oe : Obj} {vs : Array Value} (e : h.get? a = some oe) (z : Zc cls none oe) (d : oe.data = .fields vs) : ObjOk P w H h a (CxO cls a) :=
  ⟨⟨oe, vs, e, z, d⟩, ⟨oe, e⟩, fun _ _ ⟨o, v, q, r⟩ k => ⟨o, v, k o q, r⟩⟩
/-- what the clause wishes; behind it the exception is tracked -/
def wKeep (K : PySem.W.Frag) (c : Value) (i : Nat) (ts : TS) (Wout : WX) (D : Ends) : WX := fun cls d σ H =>
  ∃ b, PySem.W.exmOne K cls c = some b ∧ (b = true -> d = none ∧ ∀ a, H a = none -> ts { nx := fun σ' H' => H' a = none -> D.nx (σ'.set i none) (upd H' a (CxO cls a)), rt := fun _ _ => False } (σ.set i (some (.ref a))) H) ∧
    (b = false -> Wout cls d σ H)
variable {x n : Str} {c : Value} {i : Nat} {body suite : List Stmt} {b₀ : Stmt} {np pos pos' : Pos} {tb : WX -> TS} {ts : TS} {Wout : WX}
theorem ps_try_keep (hs : X.stack = X.env :: X.outer) (hf : X.env.frame = some X.env.locals) (hex : X.ex = []) (hN : X.N.Nodup) (hi : X.N[i]? = some n) (hln : X.env.kindOf n = some .local) (hc : Names X x c) (tk : Takes X Wout)
    (hb : ∀ (W : WX) (pn : List (Addr × Obj)) (xe : Value -> Shared -> Prop), Takes (X.tr pn xe) W -> PassesOwn (model X.prog X.w) X.A X.env xe -> PSs (X.tr pn xe) body (tb W))
    (hsu : ∀ (a : Addr) (pn : List (Addr × Obj)), PSs (X.suite a pn) (b₀ :: suite) ts) :
    PS X (.Try body [.ExceptHandler (some (.Name x np)) (some n) (b₀ :: suite) pos'] [] [] pos) (fun D σ H => tb (wKeep X.K c i ts Wout D) D σ H) := by
  refine ⟨fun pins s σ H D I h => ?_⟩
  have ok := I.ok
  have afr : X.A.frames = some (X.env :: X.outer) := by rw [ok.frames, hs]
  have lcl : Loc X.env.scope n := .inl hln
  refine wpAny_Try_except ?_
  refine wpAny_mono ((hb (wKeep X.K c i ts Wout D) (X.pn ++ pins) (fun e t₁ => wpAny (model X.prog X.w) X.A (noteFrame e X.env) (fun _ t₂ => wpAny (model X.prog X.w) X.A (setFlight e none) (fun _ t₃ =>
    wpAny (model X.prog X.w) X.A (handleBy e X.env [.ExceptHandler (some (.Name x np)) (some n) (b₀ :: suite) pos']) (SP X pins D) X.xe t₃) X.xe t₂) X.xe t₁) (fun u t xx => ?_) PassesOwn.looking).run [] s σ H D (I.toTry _) h) (fun f s1 hsp => ?_) (fun e s1 he => he)
  · obtain ⟨a, B, sI, pins', σ', H', cls, d, rfl, J', nb, up, sky, na, os, ag, b, hb1, hyes, hno⟩ := xx
    have J : Inv X pins σ' H' sI := J'.ofTry ok
    have sky' : Sky B (X.env :: X.outer) a (Zc cls d) X.env.locals t.heap := by rw [← hs]; exact sky
    show wpAny (model X.prog X.w) X.A (noteFrame (.ref a) X.env) _ _ _
    refine Sky.land Zc.steady afr hf sky' fun h3 fl3 up3 => ?_
    have J3 : Inv X pins σ' H' { t with heap := h3 } := J.landed nb fl3.1 (up.trans up3) os ag
    obtain ⟨oe3, vs3, he3, hz3, hd3⟩ := fl3.there
    have nfr : a ∉ frs (X.env :: X.outer) := fun hm => by
      obtain ⟨_, o', e', hnf⟩ := fl3.2.2.1.mem hm
      rw [he3] at e'; cases e'
      exact hnf _ hd3
    have nL : a ≠ X.env.locals := fun z => nfr (List.mem_filterMap.mpr ⟨X.env, List.mem_cons_self, by rw [hf, z]⟩)
    have nF : a ∉ X.fs := fun hm => by
      obtain ⟨e, he, q⟩ := List.mem_filterMap.mp hm
      exact nfr (List.mem_filterMap.mpr ⟨e, List.mem_cons_of_mem _ he, q⟩)
    have nB : B.get? a = none := fl3.2.1
    have nI : sI.heap.get? a = none := by
      cases e : sI.heap.get? a with
      | none => rfl
      | some o =>
        have z := nb a o e (by rw [hs]; exact nfr)
        rw [nB] at z; cases z
    have n0 : X.s_0.heap.get? a = none := by
      cases e : X.s_0.heap.get? a with
      | none => rfl
      | some o =>
        obtain ⟨o', z⟩ := J.base.there a o e (by rw [hex]; exact fun z => nomatch z)
        rw [nI] at z; cases z
    have nP : ∀ p ∈ X.pn ++ pins, p.1 ≠ a := fun p hp z => by
      have w := (J.pin p hp).1
      rw [z, nI] at w; cases w
    have S3 := J3.suite he3 hd3 na nL nF
    refine wpAny_handleBy_cons (codeAny_handlers_test ?_) (by intro q; cases q)
    have LT : PySem.W.Looks (model X.prog X.w) h3 (typeOf (.ref a)) cls := fun A Q E s k q => wpAny_typeOf_ref (k _ _ he3) (by rw [hz3.1]; exact q)
    have LM := PySem.W.exm_one (M := model X.prog X.w) (J3.kIn) LT hb1
    have asked : ∀ {Q : Value -> Shared -> Prop} {E : Value -> Shared -> Prop}, Q c { t with heap := h3 } -> wpAny (model X.prog X.w) (X.A.mark (some (.ref a))) (eval (.Name x np) X.env) Q E { t with heap := h3 } := fun {Q E} q => by
      obtain ⟨hg, hdbg, hm | ⟨hm, hv, hnn⟩⟩ := hc
      · exact ld_glob (X := X.suite a ((a, oe3) :: (X.pn ++ pins))) S3 hg hm q hdbg
      · exact ld_blt (X := X.suite a ((a, oe3) :: (X.pn ++ pins))) S3 hg hm hv q hnn hdbg
    refine asked (LM.here ?_)
    cases b with
    | true =>
      obtain ⟨rfl, hyes2⟩ := hyes rfl
      refine codeAny_handlers_suite_as ?_
      refine HandSPX.lands_againZ fl3 fun h4 fl4 up4 => ?_
      have J4 : Inv X pins σ' H' { t with heap := h4 } := J.landed nb fl4.1 ((up.trans up3).trans up4) os ag
      obtain ⟨oe4, vs4, he4, hz4, hd4⟩ := fl4.there
      have S4 := J4.suite he4 hd4 na nL nF
      refine store_ok (X := X.suite a ((a, oe4) :: (X.pn ++ pins))) (v := .ref a) S4 hN hi lcl rfl (fun s5 S5 => ?_) (.inr hln)
      refine wpAny_mono ((hsu a ((a, oe4) :: (X.pn ++ pins))).run [] s5 _ H' _ S5 (hyes2 a na)) (fun f s6 hsp => ?_) (fun _ _ z => False.elim z)
      cases f with
      | next =>
        obtain ⟨σ6, H6, S6, q6⟩ := hsp
        have U6 := Inv.unsuite2 S6 ok
        refine gone_ok U6 hN hi hln fun s7 J7 => ?_
        obtain ⟨e7, n7, _, _, _⟩ := J7.pin (a, oe4) (List.mem_append_right _ (List.mem_cons_self ..))
        have e7 : s7.heap.get? a = some oe4 := e7
        have n7 : H6 a = none := n7
        have J7' : Inv X pins (σ6.set i none) H6 s7 := J7.pins_of fun p hp => J7.pin p (List.mem_append_right _ (List.mem_cons_of_mem _ hp))
        refine ⟨_, _, Inv.layX (o := CxO cls a) J7' n7 nL n0 (fun y c2 e z => ?_) nP (cxO_ok e7 hz4 hd4), q6 n7⟩
        obtain ⟨v, o, w1, w2⟩ := J7'.cell y c2 e
        rw [z, e7] at w1; cases w1
        rw [hd4] at w2; cases w2
      | brk =>
        obtain ⟨σ6, H6, S6, q6⟩ := hsp
        exact False.elim q6
      | cont =>
        obtain ⟨σ6, H6, S6, q6⟩ := hsp
        exact False.elim q6
      | ret u =>
        obtain ⟨v6, σ6, H6, S6, r6, q6⟩ := hsp
        exact False.elim q6
    | false =>
      show wpAny _ X.A (handleBy (.ref a) X.env []) _ _ _
      refine wpAny_handleBy_nil ?_
      obtain ⟨k1, k2, k3, oe, vs, T, oT, ts', he, hz, hd, h1, hr⟩ := id fl3
      unfold PySem.passOn
      refine wpAny_bind (wpAny_field he hd h1 ?_)
      rw [if_neg (show ¬ ((Value.ref T == Value.none) = true) from by simp)]
      have fin : wpAny (model X.prog X.w) X.A (setFlight (.ref a) X.env.frame) (fun _ s4 => wpAny (model X.prog X.w) X.A (throw (.ref a) : Sem Flow) (SP X pins D) X.xe s4) X.xe { t with heap := h3 } := by
        rw [hf]
        refine HandSPX.setFlight_upZ fl3 fun h4 hh4 up4 => wpAny_throw (tk _ _ ?_)
        exact ⟨a, B, sI, pins, σ', H', cls, d, rfl, J, nb, (up.trans up3).trans up4, .inr (.inr (by rw [hs]; exact hh4)), na, os, ag, hno rfl⟩
      first
        | exact wpAny_bind (wpAny_pure (wpAny_bind fin))
        | exact wpAny_bind fin
  · cases f with
    | next =>
      obtain ⟨σ', H', J', q⟩ := hsp
      exact wpAny_execs_nil ⟨σ', H', J'.ofTry ok, q⟩
    | brk =>
      obtain ⟨σ', H', J', q⟩ := hsp
      exact ⟨σ', H', J'.ofTry ok, q⟩
    | cont =>
      obtain ⟨σ', H', J', q⟩ := hsp
      exact ⟨σ', H', J'.ofTry ok, q⟩
    | ret u =>
      obtain ⟨v, σ', H', J', r, q⟩ := hsp
      exact ⟨v, σ', H', J'.ofTry ok, r, q⟩
end
/-! ### isinstance -/
section
variable {X : Cx}
def rIsX (K : PySem.W.Frag) (D : Addr) : List V -> Hp -> VK -> Prop := fun xs H Q => ∃ (a : Addr) (c : V) (cv : Value) (b : Bool), xs = [.ref a, c] ∧ H a = some (CxO (.ref D) a) ∧ (∀ u, RelV c u -> u = cv) ∧ PySem.W.kitOne K (.ref D) cv = some b ∧ Q (.bl b) H
theorem call_isX {D : Addr} (C : ExcC X.K D) : CallR X (.builtin "isinstance") (rIsX X.K D) := by
  intro pins s σ H xs us Q I r ⟨a, c, cv, b, ex, ha, hcv, e, q⟩
  subst ex
  obtain ⟨u, w, eu, r1, r2⟩ := vals2 r
  subst eu
  obtain rfl : u = Value.ref a := r1
  have ec := hcv _ r2
  subst ec
  obtain ⟨⟨oe, vs, hget, hz, hv⟩, _⟩ := I.hok a _ ha
  have J : PySem.W.InstAt s.heap a oe D none := by
    obtain ⟨oc, od, oda, osl⟩ := oe
    obtain ⟨h1, h2⟩ := hz
    dsimp only at h1 h2 hv
    subst h1 h2 hv
    exact ⟨hget, rfl, rfl, trivial⟩
  exact PySem.W.kia_one (PySem.W.handS_kitx_exc C.hg C.hk C.hs C.hd C.ha C.hn C.ht C.hm) I.kIn J e (fun z => nomatch z) fun tk => ⟨.bl b, H, I.kept (t' := tk) fun _ _ z => z, rfl, q⟩
end

/-! ### as compiled -/
def clsV (K : PySem.W.Frag) (y : Str) (o : Bool) : Value := if o = true then .ref (He.ga K y) else .type "ValueError"
structure ClsOk (K : PySem.W.Frag) (mg : Str -> Option Value) (ex : ExT) : Prop where
  exs : ∀ c, ex.exs.contains c = true -> mg c = some (.ref (He.ga K c)) ∧ PySem.W.excIn K (He.ga K c) He.veBase "ValueError.__new__" = true ∧ PySem.W.keepIn K (.ref (He.ga K c)) = true ∧ PySem.W.subIn K (.ref (He.ga K c)) (.type "BaseException") = some true ∧ PySem.W.typeIn K (.ref (He.ga K c)) = some (.type "type")
  own : ∀ y yes no, ex.cls.lookup y = some (true, yes, no) -> mg y = some (.ref (He.ga K y))
  bin : ∀ y yes no, ex.cls.lookup y = some (false, yes, no) -> mg y = none
  yes : ∀ y o yes no c, ex.cls.lookup y = some (o, yes, no) -> yes.contains c = true -> ExcC K (He.ga K c) ∧ PySem.W.kitOne K (.ref (He.ga K c)) (clsV K y o) = some true ∧ (o = true -> PySem.W.exmOne K (.ref (He.ga K c)) (.ref (He.ga K y)) = some true)
  no : ∀ y o yes no c, ex.cls.lookup y = some (o, yes, no) -> no.contains c = true -> ExcC K (He.ga K c) ∧ PySem.W.kitOne K (.ref (He.ga K c)) (clsV K y o) = some false ∧ (o = true -> PySem.W.exmOne K (.ref (He.ga K c)) (.ref (He.ga K y)) = some false)
section
variable {X : Cx} {Γ : Calls} {gl : Str -> Option D} {W : WX} {m : Nat} {a : Expr} {ca : CE} {ex : ExT}
theorem snd_rais {c : Str} {p pos pos2 : Pos} (C : ClsOk X.K X.mg ex) (hx : ex.exs.contains c = true) (hc : X.calm = true) (tk : Takes X W) (hg : Gl X c) (hdb : (c == ("__debug__" : Str)) = false) (hs : noStar a = true) (ha : PE X a (tE X.K Γ gl W ca)) :
    PS X (.Raise (some (.Call (.Name c p) [a] [] pos)) none pos2) (tS X.K Γ gl W m (.rais c ca)) := by
  obtain ⟨g1, g2, g3, g4, g5⟩ := C.exs c hx
  refine PS.imp (ps_raise hc tk (pmk_ownA PySem.F.excBase_ValueError g2 g1 g3 (raises_own g4 g5) hg (pa_cons ha pa_nil (noStar_each hs)) hdb (noStar_each hs) (plainStar rfl))) fun E σ H ⟨x, F, δ, R, p⟩ => ?_
  unfold execS at p
  exact ⟨x, F, δ, R, p.bindE fun r δ1 F1 H1 v R1 s1 rv p1 => ⟨by show 1 ≤ sizeLine; decide, p1 F1 H1 σ _ none R1 (Same.refl _) ⟨rfl, rfl⟩⟩⟩
theorem snd_ixc {y : Str} {o : Bool} {yes no : List Str} {p p2 pos : Pos} (C : ClsOk X.K X.mg ex) (hl : ex.cls.lookup y = some (o, yes, no)) (ho : o = true ∨ y = "ValueError") (hg : Gl X "isinstance") (hm : X.mg "isinstance" = none) (hgy : Gl X y) (hdb : (y == ("__debug__" : Str)) = false) (hs : noStar a = true) (ha : PE X a (tE X.K Γ gl W ca)) :
    PE X (.Call (.Name "isinstance" p) [a, .Name y p2] [] pos) (tE X.K Γ gl W (.ixc ca yes no)) := by
  obtain ⟨cV, hT, hV⟩ : ∃ cV, PE X (.Name y p2) (tC cV) ∧ ∀ u, RelV cV u -> u = clsV X.K y o := by
    cases o with
    | true => exact ⟨.ref (He.ga X.K y), pe_glob hgy (C.own y yes no hl) (show RelV (.ref _) (.ref _) from rfl) hdb, fun u r => r⟩
    | false =>
      rcases ho with h | rfl
      · cases h
      · exact ⟨.ty "ValueError", pe_bltn hgy (C.bin _ yes no hl) (by decide +kernel) (show RelV (.ty "ValueError") (.type "ValueError") from rfl) (by decide +kernel) hdb, fun u r => r⟩
  have all : CallR X (.builtin "isinstance") (fun vs H Q => ∃ D, ExcC X.K D ∧ rIsX X.K D vs H Q) := fun pins s σ H xs us Q I r ⟨D, hD, h⟩ => call_isX hD pins s σ H xs us Q I r h
  refine PE.imp (pe_callB all hg hm (by decide +kernel) (pa_cons ha (pa_cons hT pa_nil (noStar_each rfl)) (noStar_each hs)) (by decide) (by decide) (noStar_each hs) (plainStar rfl)) fun σ H Q ⟨x, F, δ, R, pp⟩ => ?_
  unfold evalE at pp
  refine ⟨x, F, δ, R, pp.bind fun r1 δ1 F1 H1 v R1 s1 rv1 p1 => ?_⟩
  obtain ⟨dd, r0, _, hd, e, q⟩ := rdTo_of R1 rv1 p1
  have e : isxD yes no dd = some r0 := e
  unfold isxD at e
  cases ec : excOf dd with
  | none => rw [ec] at e; cases e
  | some c =>
    rw [ec] at e
    simp only at e
    obtain ⟨b, rfl, hb⟩ := hd.exc R1.sub ec
    by_cases h1 : yes.contains c = true
    · rw [if_pos h1] at e
      cases e
      obtain ⟨k1, k2, _⟩ := C.yes y o yes no c hl h1
      exact ⟨_, k1, b, cV, _, true, rfl, hb, hV, k2, fin_pure R1.sub (fun F' H' w g n => q F' H' w (R1.grw g) g.f (R1.resN n)) rfl (.bl _)⟩
    · rw [if_neg h1] at e
      by_cases h2 : no.contains c = true
      · rw [if_pos h2] at e
        cases e
        obtain ⟨k1, k2, _⟩ := C.no y o yes no c hl h2
        exact ⟨_, k1, b, cV, _, false, rfl, hb, hV, k2, fin_pure R1.sub (fun F' H' w g n => q F' H' w (R1.grw g) g.f (R1.resN n)) rfl (.bl _)⟩
      · rw [if_neg h2] at e; cases e
/-- an empty slot may hold anything, or nothing -/
theorem Rel.anyEmp {K : PySem.W.Frag} {x : Fx} {F H : Hp} {σ : L2.St} {δ : DEnv} (R : Rel K x F σ H δ) {i : Nat} (v : Option V) (q : δ[i]? = some .emp) : Rel K x F (σ.set i v) H δ := by
  have ne : ∀ {j : Nat} {c : Cell}, δ[j]? = some c -> c ≠ .emp -> j ≠ i := fun {j c} h n z => by
    subst z; rw [q] at h; cases h; exact n rfl
  have ow : ∀ {c : Cell}, c.isOwn = true -> c ≠ .emp := fun {c} o z => by subst z; cases o
  refine ⟨by rw [List.length_set]; exact R.len, R.sub, R.frm, R.f0, R.ext, fun j c h => ?_, fun j c b h o w => ?_, fun j k c e b njk h1 o1 h2 o2 w => ?_, fun p hp => ?_, fun j d h => ?_⟩
  · cases c with
    | emp => trivial
    | _ => rw [List.getElem?_set_ne (Ne.symm (ne h (fun z => by cases z)))]; exact R.slot j _ h
  · rw [List.getElem?_set_ne (Ne.symm (ne h (ow o)))] at w
    exact R.own j c b h o w
  · rw [List.getElem?_set_ne (Ne.symm (ne h1 (ow o1)))] at w
    rw [List.getElem?_set_ne (Ne.symm (ne h2 (ow o2)))]
    exact R.sep j k c e b njk h1 o1 h2 o2 w
  · obtain ⟨h1, d, h2⟩ := R.par p hp
    exact ⟨by rw [List.getElem?_set_ne (Ne.symm (ne h2 (fun z => by cases z)))]; exact h1, d, h2⟩
  · rw [List.getElem?_set_ne (Ne.symm (ne h (fun z => by cases z)))]
    exact R.inp j d h
theorem noInp_of {δ : DEnv} {i : Nat} (h : noInp δ i = true) : ∃ c, δ[i]? = some c ∧ ∀ d, c ≠ .inp d := by
  unfold noInp at h
  split at h
  · cases h
  · rename_i c e q
    exact ⟨c, q, fun d z => e d z⟩
  · cases h
theorem snd_tryx {csb : CSs} {x n y : Str} {yes no : List Str} {i j : Nat} {body : List Stmt} {np p1 p2 p3 pos pos' : Pos} (C : ClsOk X.K X.mg ex) (hl : ex.cls.lookup x = some (true, yes, no))
    (hs : X.stack = X.env :: X.outer) (hf : X.env.frame = some X.env.locals) (hex : X.ex = []) (nd : X.N.Nodup) (hi : X.N[i]? = some n) (hln : X.env.kindOf n = some .local) (hvn : Vis X.env.scope n) (hn1 : (n == ("__debug__" : Str)) = false) (hn2 : (n == ("__classdict__" : Str)) = false)
    (hj : X.N[j]? = some y) (hly : Loc X.env.scope y) (hfy : X.fn y = true ∨ X.env.scope.names.lookup y = some .local) (hg : Gl X x) (hdb : (x == ("__debug__" : Str)) = false) (tk : Takes X W)
    (hb : ∀ (W' : WX) (pn : List (Addr × Obj)) (xe : Value -> Shared -> Prop), Takes (X.tr pn xe) W' -> PassesOwn (model X.prog X.w) X.A X.env xe -> PSs (X.tr pn xe) body (tSs X.K Γ gl W' m csb)) :
    PS X (.Try body [.ExceptHandler (some (.Name x np)) (some n) [.Assign [.Name y p1] (.Name n p2) p3] pos'] [] [] pos) (tS X.K Γ gl W m (.tryx csb yes no i j)) := by
  have hsu : ∀ (a : Addr) (pn : List (Addr × Obj)), PSs (X.suite a pn) [.Assign [.Name y p1] (.Name n p2) p3] _ := fun a pn => pss_cons (X := X.suite a pn) (ps_set (X := X.suite a pn) nd hj hly (pe_var (X := X.suite a pn) hi hvn hn1 hn2) rfl hfy) pss_nil
  refine PS.imp (ps_try_keep (c := .ref (He.ga X.K x)) hs hf hex nd hi hln ⟨hg, hdb, .inl (C.own x yes no hl)⟩ tk hb hsu) fun E σ H ⟨fx, F, δ, R, p⟩ => ?_
  unfold execS at p
  refine ⟨fx, F, δ, R, ?_⟩
  cases e : execSs Γ gl m csb δ with
  | no => rw [e] at p; exact p.elim
  | ok f δ1 => rw [e] at p; cases f <;> exact p
  | ex ee δ1 =>
    rw [e] at p
    simp only at p
    intro F' H' σ' cls d R' s' er
    obtain ⟨rfl, er⟩ := er
    cases ea : ee.arg with
    | some q => rw [ea] at p; exact p.elim
    | none =>
      rw [ea] at p er
      simp only at p er
      by_cases h1 : yes.contains ee.cls = true
      · rw [if_pos h1] at p
        obtain ⟨_, _, k3⟩ := C.yes x true yes no ee.cls hl h1
        by_cases h2 : (decide (i ≠ j) && (noInp δ1 i && noInp δ1 j)) = true
        · rw [if_pos h2] at p
          simp only [Bool.and_eq_true, decide_eq_true_eq] at h2
          obtain ⟨hij, h3, h4⟩ := h2
          obtain ⟨ci, qi, ni⟩ := noInp_of h3
          obtain ⟨cj, qj, nj⟩ := noInp_of h4
          refine ⟨true, k3 rfl, fun _ => ⟨er, fun a na => ?_⟩, (fun z => by cases z)⟩
          have hiσ : i < σ'.length := by rw [R'.len]; exact (List.getElem?_eq_some_iff.mp qi).1
          refine ⟨.ref a, List.getElem?_set_self hiσ, fun nb => ?_⟩
          have R1 := R'.still (CxO (.ref (He.ga X.K ee.cls)) a) na
          have R2 := R1.setPure (v := .ref a) (d := excD ee.cls) qj nj (.exc upd_same)
          have R3 := R2.forget (i := i) fun d z => by
            rw [List.getElem?_set_ne (Ne.symm hij), qi] at z
            exact ni d (Option.some.inj z)
          have qe : ((δ1.set j (.pure (excD ee.cls))).set i .emp)[i]? = some .emp := List.getElem?_set_self (by rw [List.length_set]; exact (List.getElem?_eq_some_iff.mp qi).1)
          have R4 := R3.anyEmp none qe
          have es : (σ'.set j (some (V.ref a))).set i none = (((σ'.set i (some (V.ref a))).set j (some (V.ref a))).set i none) := by
            rw [List.set_comm _ _ hij, List.set_set]
          rw [es] at R4
          exact p _ _ _ R4 (s'.trans (same_upd (R'.nF na)))
        · rw [if_neg h2] at p; exact p.elim
      · rw [if_neg h1] at p
        by_cases h2 : no.contains ee.cls = true
        · rw [if_pos h2] at p
          obtain ⟨_, _, k3⟩ := C.no x true yes no ee.cls hl h2
          refine ⟨false, k3 rfl, (fun z => by cases z), fun _ => p F' H' σ' _ d R' s' ⟨rfl, by rw [ea]; exact er⟩⟩
        · rw [if_neg h2] at p; exact p.elim
end
end DE

/-! DE16: what the compiler answers is kept by the text. -/
namespace DE
open PySem PySem.Spec PyProof.Rows L2
structure Good (Γ : Calls) (gl : Str -> Option D) (W : WX) (c : CC) (X : Cx) : Prop where
  nd : X.N.Nodup
  n : X.N = c.N
  sc : X.env.scope = c.sc
  st : ∀ x, locC c.os x = true -> X.fn x = true ∨ X.env.scope.names.lookup x = some .local
  calm : X.calm = true
  units : X.A.units + 100 < cLine
  fns : ∀ f io, c.fns.lookup f = some io -> CallOk Γ X f
  gls : ∀ y, c.gls.contains y = true -> gl y ≠ none ∧ ∀ dt, gl y = some dt -> ∃ v u, X.mg y = some u ∧ RelV v u ∧ ∀ F, Dat X.K F v dt
  blt : ∀ x, x ∈ allB -> X.mg x = none
  tk : Takes X W
  po : PassesOwn (model X.prog X.w) X.A X.env X.xe
  cl : ClsOk X.K X.mg c.ex
section
variable {Γ : Calls} {gl : Str -> Option D} {W : WX} {c : CC} {X : Cx}
theorem okName_of {x : Str} (h : okName x = true) : (x == ("__debug__" : Str)) = false ∧ (x == ("__classdict__" : Str)) = false ∧ (x == ("__name__" : Str)) = false := by
  unfold okName at h
  simp only [Bool.and_eq_true, Bool.not_eq_true'] at h
  exact ⟨h.1.1, h.1.2, h.2⟩
theorem Good.slot (G : Good Γ gl W c X) {x : Str} {i : Nat} (h : c.slot x = some i) : X.N[i]? = some x ∧ Vis X.env.scope x ∧ (x == ("__debug__" : Str)) = false ∧ (x == ("__classdict__" : Str)) = false := by
  unfold CC.slot at h
  split at h
  · rename_i z
    rw [Bool.and_eq_true] at z
    obtain ⟨h1, h2, _⟩ := okName_of z.2
    exact ⟨by rw [G.n]; exact idxOf_get h, by rw [G.sc]; exact vis_of z.1, h1, h2⟩
  · cases h
theorem Good.store (G : Good Γ gl W c X) {x : Str} {i : Nat} (h : c.st x = some i) : X.N[i]? = some x ∧ Loc X.env.scope x ∧ (X.fn x = true ∨ X.env.scope.names.lookup x = some .local) := by
  unfold CC.st at h
  split at h
  · rename_i z
    rw [Bool.and_eq_true, Bool.and_eq_true] at z
    exact ⟨by rw [G.n]; exact idxOf_get h, by rw [G.sc]; exact loc_of z.1, G.st x z.2.1⟩
  · cases h
theorem Good.glo (G : Good Γ gl W c X) {x : Str} (h : gloC c.sc x = true) : Gl X x := by
  show X.env.scope.names.lookup x = _
  rw [G.sc]; exact glo_of h
theorem Good.u65 (G : Good Γ gl W c X) : X.A.units + 65 < cLine := by have := G.units; omega
theorem Good.u70 (G : Good Γ gl W c X) : X.A.units + 70 < cLine := by have := G.units; omega
theorem Good.blk (G : Good Γ gl W c X) (scope : Scope) (s : Shared) (H : Hp) (C : Addr) (cl : List (Str × Addr)) (fp : List Addr) : Good Γ gl W0 { c with sc := relS scope c.sc, os := scope } (X.blk s H scope (compEnvC scope cl C X.env) fp) where
  nd := G.nd
  n := G.n
  sc := by rw [← G.sc]; rfl
  st := fun x h => by
    unfold locC at h
    show (scope.names.lookup x == some .cell) = true ∨ (relS scope X.env.scope).names.lookup x = some .local
    split at h
    · rename_i e
      refine .inr ?_
      have key : ∀ (l : List (Str × NameKind)), l.lookup x = some .local -> (l.map fun (n, k) => if (k == .free && X.env.scope.kind == .function && X.env.scope.names.lookup n == some .cell) then (n, NameKind.cell) else (n, k)).lookup x = some .local := by
        intro l
        induction l with
        | nil => intro h; cases h
        | cons y r ih =>
          intro h
          obtain ⟨n, k⟩ := y
          rw [List.lookup_cons] at h
          rw [List.map_cons]
          cases q : x == n with
          | true =>
            rw [q] at h
            cases h
            simp only []
            rw [if_neg (by simp), List.lookup_cons, q]
          | false =>
            rw [q] at h
            have h2 := ih h
            simp only []
            split
            · rw [List.lookup_cons, q]; exact h2
            · rw [List.lookup_cons, q]; exact h2
      exact key _ e
    · rename_i e
      exact .inl (by rw [e]; rfl)
    · cases h
  calm := G.calm
  units := G.units
  fns := G.fns
  gls := G.gls
  blt := G.blt
  tk := takes0
  po := PassesOwn.never
  cl := G.cl
theorem bim_no {op : CmpOp} {b : Expr} (h : noSet b = true) : behindInMarks op b = false := by
  cases b <;> first | (simp [noSet] at h; done) | rfl
theorem lm_no {o p : CmpOp} {b d : Expr} (h : noSet d = true) : lastMarks [o, p] [b, d] = false := by
  show behindInMarks p d = false
  exact bim_no h
theorem fold_no {e : Expr} {env : Env} (h : noSet e = true) (z : Value) : foldedSetIterable e env z = pure z := by
  cases e <;> first | (simp [noSet] at h; done) | rfl
theorem plainIx_of {b : Expr} (h : noSlice b = true) : PlainIx b := by
  intro o i
  cases b <;> first | (simp [noSlice] at h; done) | rfl
structure LcOk (Γ : Calls) (gl : Str -> Option D) (W : WX) (X : Cx) (elt tg it : Expr) (ifs : List Expr) (scope : Scope) (x : CE) : Prop where
  ex : ∃ ce ct cit cco own, x = .lc ce ct cit cco (own.map (·.2)) ∧ BlkOk X.N X.env.scope scope own ∧ PI X tg it (tI X.K Γ gl W cit) ∧
    (∀ (s : Shared) (H : Hp) (C : Addr) (cl : List (Str × Addr)) (fp : List Addr), PG (X.blk s H scope (compEnvC scope cl C X.env) fp) tg (tG X.K ct)) ∧
    (∀ (s : Shared) (H : Hp) (C : Addr) (cl : List (Str × Addr)) (fp : List Addr), PTs (X.blk s H scope (compEnvC scope cl C X.env) fp) ifs (tC' X.K Γ gl W0 cco)) ∧
    (∀ (s : Shared) (H : Hp) (C : Addr) (cl : List (Str × Addr)) (fp : List Addr), PE (X.blk s H scope (compEnvC scope cl C X.env) fp) elt (tE X.K Γ gl W0 ce)) ∧ ∀ z, foldedSetIterable it X.env z = pure z
structure AllAt (Γ : Calls) (gl : Str -> Option D) (n : Nat) : Prop where
  t : ∀ {W c X}, Good Γ gl W c X -> ∀ {e x}, compT c n e = some x -> PG X e (tG X.K x)
  ts : ∀ {W c X}, Good Γ gl W c X -> ∀ {e x}, compTs c n e = some x -> PGs X e (tGs X.K x) ∧ e.all noStar = true ∧ x.length = e.length
  e : ∀ {W c X}, Good Γ gl W c X -> ∀ {e x}, compE c n e = some x -> PE X e (tE X.K Γ gl W x) ∧ (noIf e = true -> PT X e (tT X.K Γ gl W x))
  call : ∀ {W c X}, Good Γ gl W c X -> ∀ {f as x}, compCall c n f as = some x -> gloC c.sc f = true -> okName f = true -> ∀ p pos, PE X (.Call (.Name f p) as [] pos) (tE X.K Γ gl W x) ∧ genT x = true
  an : ∀ {W c X}, Good Γ gl W c X -> ∀ {es x}, compAn c n es = some x -> ∀ pos, PE X (.BoolOp .And es pos) (tE X.K Γ gl W x) ∧ PW X (.BoolOp .And es pos) (tT X.K Γ gl W x)
  or : ∀ {W c X}, Good Γ gl W c X -> ∀ {es x}, compOr c n es = some x -> ∀ pos, PE X (.BoolOp .Or es pos) (tE X.K Γ gl W x) ∧ PW X (.BoolOp .Or es pos) (tT X.K Γ gl W x)
  es : ∀ {W c X}, Good Γ gl W c X -> ∀ {es x}, compEs c n es = some x -> PA X es (tEs X.K Γ gl W x) ∧ PA X es (tRs X.K Γ gl W x) ∧ es.all noStar = true ∧ (es = [] -> x = .nil)
  as_ : ∀ {W c X}, Good Γ gl W c X -> ∀ {j io es x}, compAs c n j io es = some x -> PA X es (tAs X.K Γ gl W x) ∧ es.all noStar = true ∧ (es = [] -> x = .nil)
  ps : ∀ {W c X}, Good Γ gl W c X -> ∀ {ks vs x}, compPs c n ks vs = some x -> ∃ trs, PsOk Γ gl W X ks vs x trs
  a1 : ∀ {W c X}, Good Γ gl W c X -> ∀ {b e y}, compA1 c n b e = some y -> (∀ x, y = .inl x -> PE X e (tE X.K Γ gl W x)) ∧ ∀ i, y = .inr i -> ∃ z p, e = .Name z p ∧ c.slot z = some i
  o : ∀ {W c X}, Good Γ gl W c X -> ∀ {e x}, compO c n e = some x -> PO X e (tO X.K Γ gl W x)
  i : ∀ {W c X}, Good Γ gl W c X -> ∀ {tu e x}, compI c n tu e = some x -> ∀ tg, (tu = true -> isTup tg = true) -> PI X tg e (tI X.K Γ gl W x)
  lc : ∀ {W c X}, Good Γ gl W c X -> ∀ {elt tg it ifs scope x}, compLc c n elt tg it ifs scope = some x -> LcOk Γ gl W X elt tg it ifs scope x
  ifs : ∀ {W c X}, Good Γ gl W c X -> ∀ {es x}, compIfs c n es = some x -> PTs X es (tC' X.K Γ gl W x)
theorem all0 : AllAt Γ gl 0 where
  t := fun _ => by intro e x h; unfold compT at h; cases h
  ts := fun _ => by intro e x h; unfold compTs at h; cases h
  e := fun _ => by intro e x h; unfold compE at h; cases h
  call := fun _ => by intro e x y h; unfold compCall at h; cases h
  an := fun _ => by intro e x h; unfold compAn at h; cases h
  or := fun _ => by intro e x h; unfold compOr at h; cases h
  es := fun _ => by intro e x h; unfold compEs at h; cases h
  as_ := fun _ => by intro e x y z h; unfold compAs at h; cases h
  ps := fun _ => by intro e x y h; unfold compPs at h; cases h
  a1 := fun _ => by intro e x y h; unfold compA1 at h; cases h
  o := fun _ => by intro e x h; unfold compO at h; cases h
  i := fun _ => by intro tu e x h; unfold compI at h; cases h
  lc := fun _ => by intro a b c d e f h; unfold compLc at h; cases h
  ifs := fun _ => by intro e x h; unfold compIfs at h; cases h
end
end DE

/-! DE17: the step of that. -/
namespace DE
open PySem PySem.Spec PyProof.Rows L2
section
variable {Γ : Calls} {gl : Str -> Option D} {W : WX} {c : CC} {X : Cx} {n : Nat}
theorem orMap {α β : Type} {o : Option α} {f : α -> β} {y : β} (h : o.map f = some y) : ∃ x, o = some x ∧ f x = y := by
  cases o with
  | none => cases h
  | some x => cases h; exact ⟨x, rfl, rfl⟩
theorem both {e : Expr} {x : CE} (g : PE X e (tE X.K Γ gl W x)) (k : genT x = true) (he : ∀ whole, isTrue e X.env whole = (do let v ← whole; standAt e.pos; holding [v] (truthy v))) : PE X e (tE X.K Γ gl W x) ∧ (noIf e = true -> PT X e (tT X.K Γ gl W x)) :=
  ⟨g, fun _ => snd_tgen k g he⟩
theorem step_t (A : AllAt Γ gl n) (G : Good Γ gl W c X) {e : Expr} {x : CT} (h : compT c (n + 1) e = some x) : PG X e (tG X.K x) := by
  unfold compT at h
  split at h
  · rename_i y p
    cases q : c.st y with
    | none => rw [q] at h; cases h
    | some i =>
      rw [q] at h; cases h
      obtain ⟨h1, h2, h3⟩ := G.store q
      exact snd_nm G.nd h1 h2 h3
  · rename_i es k p
    cases q : compTs c n es with
    | none => rw [q] at h; cases h
    | some ts =>
      rw [q] at h; cases h
      obtain ⟨h1, h2, h3⟩ := A.ts G q
      exact snd_gtup G.calm h2 h3 h1
  · cases h
theorem step_ts (A : AllAt Γ gl n) (G : Good Γ gl W c X) {e : List Expr} {x : List CT} (h : compTs c (n + 1) e = some x) : PGs X e (tGs X.K x) ∧ e.all noStar = true ∧ x.length = e.length := by
  unfold compTs at h
  split at h
  · cases h; exact ⟨snd_gnil, rfl, rfl⟩
  · rename_i e r
    split at h
    · rename_i t ts h1 h2 h3
      cases h
      obtain ⟨g1, g2, g3⟩ := A.ts G h3
      exact ⟨snd_gcons h1 (A.t G h2) g1, by rw [List.all_cons, h1, g2]; rfl, by rw [List.length_cons, List.length_cons, g3]⟩
    · cases h
theorem step_es (A : AllAt Γ gl n) (G : Good Γ gl W c X) {es : List Expr} {x : CEs} (h : compEs c (n + 1) es = some x) : PA X es (tEs X.K Γ gl W x) ∧ PA X es (tRs X.K Γ gl W x) ∧ es.all noStar = true ∧ (es = [] -> x = .nil) := by
  unfold compEs at h
  split at h
  · cases h; exact ⟨snd_es_nil, snd_rs_nil, rfl, fun _ => rfl⟩
  · rename_i e r
    split at h
    · rename_i y ys h1 h2 h3
      cases h
      obtain ⟨g1, g2, g3, _⟩ := A.es G h3
      obtain ⟨he, _⟩ := A.e G h2
      exact ⟨snd_es_cons h1 he g1, snd_rs_cons h1 he g2, by rw [List.all_cons, h1, g3]; rfl, fun z => by cases z⟩
    · cases h
theorem step_ps (A : AllAt Γ gl n) (G : Good Γ gl W c X) {ks : List (Option Expr)} {vs : List Expr} {x : CEs} (h : compPs c (n + 1) ks vs = some x) : ∃ trs, PsOk Γ gl W X ks vs x trs := by
  unfold compPs at h
  split at h
  · cases h; exact ⟨[], .nil⟩
  · split at h
    · rename_i h1 h2 h3
      cases h
      obtain ⟨trs, g⟩ := A.ps G h3
      exact ⟨_, .cons (A.e G h1).1 (A.e G h2).1 g⟩
    · cases h
  · cases h
theorem step_a1 (A : AllAt Γ gl n) (G : Good Γ gl W c X) {b : Bool} {e : Expr} {y : CE ⊕ Nat} (h : compA1 c (n + 1) b e = some y) : (∀ x, y = .inl x -> PE X e (tE X.K Γ gl W x)) ∧ ∀ i, y = .inr i -> ∃ z p, e = .Name z p ∧ c.slot z = some i := by
  unfold compA1 at h
  split at h
  · rename_i z p
    cases q : c.slot z with
    | none => rw [q] at h; cases h
    | some i =>
      rw [q] at h; cases h
      exact ⟨fun x hx => by (cases hx), fun j hj => by cases hj; exact ⟨z, p, rfl, q⟩⟩
  · obtain ⟨x, q, rfl⟩ := orMap h
    exact ⟨fun y hy => by cases hy; exact (A.e G q).1, fun j hj => by cases hj⟩
theorem step_as (A : AllAt Γ gl n) (G : Good Γ gl W c X) {j : Nat} {io : List Nat} {es : List Expr} {x : CAs} (h : compAs c (n + 1) j io es = some x) : PA X es (tAs X.K Γ gl W x) ∧ es.all noStar = true ∧ (es = [] -> x = .nil) := by
  unfold compAs at h
  split at h
  · cases h; exact ⟨snd_as_nil, rfl, fun _ => rfl⟩
  · rename_i e r
    split at h
    · rename_i y ys h1 h2 h3
      cases h
      obtain ⟨g1, g3, _⟩ := A.as_ G h3
      exact ⟨snd_as_val h1 ((A.a1 G h2).1 _ rfl) g1, by rw [List.all_cons, h1, g3]; rfl, fun z => by cases z⟩
    · rename_i i ys h1 h2 h3
      cases h
      obtain ⟨g1, g3, _⟩ := A.as_ G h3
      obtain ⟨z, p, rfl, hs⟩ := (A.a1 G h2).2 _ rfl
      obtain ⟨k1, k2, k3, k4⟩ := G.slot hs
      exact ⟨snd_as_ref k1 k2 k3 k4 g1, by rw [List.all_cons, h1, g3]; rfl, fun z => by cases z⟩
    · cases h
theorem step_o (A : AllAt Γ gl n) (G : Good Γ gl W c X) {e : Option Expr} {x : CO} (h : compO c (n + 1) e = some x) : PO X e (tO X.K Γ gl W x) := by
  unfold compO at h
  split at h
  · cases h; exact snd_o_non
  · rename_i e
    cases q : compE c n e with
    | none => rw [q] at h; cases h
    | some x => rw [q] at h; cases h; exact snd_o_som (A.e G q).1
theorem step_ifs (A : AllAt Γ gl n) (G : Good Γ gl W c X) {es : List Expr} {x : CO} (h : compIfs c (n + 1) es = some x) : PTs X es (tC' X.K Γ gl W x) := by
  unfold compIfs at h
  split at h
  · cases h; exact snd_ifs_nil
  · split at h
    · rename_i y h1 h2
      cases h
      exact snd_ifs_one ((A.e G h2).2 h1)
    · cases h
  · cases h
theorem step_an (A : AllAt Γ gl n) (G : Good Γ gl W c X) {es : List Expr} {x : CE} (h : compAn c (n + 1) es = some x) (pos : Pos) : PE X (.BoolOp .And es pos) (tE X.K Γ gl W x) ∧ PW X (.BoolOp .And es pos) (tT X.K Γ gl W x) := by
  unfold compAn at h
  split at h
  · rename_i a
    split at h
    · rename_i h1
      obtain ⟨g1, g2⟩ := A.e G h
      exact ⟨snd_one g1, snd_tan1 (g2 h1)⟩
    · cases h
  · rename_i a b r
    split at h
    · rename_i y z h1 h2 h3
      cases h
      obtain ⟨g1, g2⟩ := A.e G h2
      obtain ⟨g3, g4⟩ := A.an G h3 pos
      exact ⟨snd_an g1 g3, snd_tan (g2 h1) g4⟩
    · cases h
  · cases h
theorem step_or (A : AllAt Γ gl n) (G : Good Γ gl W c X) {es : List Expr} {x : CE} (h : compOr c (n + 1) es = some x) (pos : Pos) : PE X (.BoolOp .Or es pos) (tE X.K Γ gl W x) ∧ PW X (.BoolOp .Or es pos) (tT X.K Γ gl W x) := by
  unfold compOr at h
  split at h
  · rename_i a
    split at h
    · rename_i h1
      obtain ⟨g1, g2⟩ := A.e G h
      exact ⟨snd_one g1, snd_tor1 (g2 h1)⟩
    · cases h
  · rename_i a b r
    split at h
    · rename_i y z h1 h2 h3
      cases h
      obtain ⟨g1, g2⟩ := A.e G h2
      obtain ⟨g3, g4⟩ := A.or G h3 pos
      exact ⟨snd_or g1 g3, snd_tor (g2 h1) g4⟩
    · cases h
  · cases h
theorem step_lc (A : AllAt Γ gl n) (G : Good Γ gl W c X) {elt tg it : Expr} {ifs : List Expr} {scope : Scope} {x : CE} (h : compLc c (n + 1) elt tg it ifs scope = some x) : LcOk Γ gl W X elt tg it ifs scope x := by
  unfold compLc at h
  split at h
  · rename_i h0
    rw [Bool.and_eq_true] at h0
    split at h
    · rename_i ci ct cx co h1 h2 h3 h4
      cases h
      refine ⟨cx, ct, ci, co, ownOf c.N scope.names, rfl, ?_, A.i G h1 tg id, fun s H C cl fp => A.t (G.blk scope s H C cl fp) h2, fun s H C cl fp => A.ifs (G.blk scope s H C cl fp) h4, fun s H C cl fp => (A.e (G.blk scope s H C cl fp) h3).1, fun z => fold_no h0.1 z⟩
      rw [G.n, G.sc]
      exact blkOk_by h0.2
    · cases h
  · cases h
theorem step_i (A : AllAt Γ gl n) (G : Good Γ gl W c X) {tu : Bool} {e : Expr} {x : CI} (h : compI c (n + 1) tu e = some x) (tg : Expr) (ht : tu = true -> isTup tg = true) : PI X tg e (tI X.K Γ gl W x) := by
  have gen : ∀ {e : Expr}, (compE c n e).map CI.val = some x -> PI X tg e (tI X.K Γ gl W x) := fun {e} h => by
    cases q : compE c n e with
    | none => rw [q] at h; cases h
    | some y => rw [q] at h; cases h; exact snd_i_val (A.e G q).1
  unfold compI at h
  split at h
  · split at h
    · rename_i hf
      subst hf
      split at h
      · rename_i h1
        rw [Bool.and_eq_true] at h1
        obtain ⟨y, q, rfl⟩ := orMap h
        exact snd_i_rng1 (G.glo h1.1) (G.blt _ (by decide)) h1.2 (A.e G q).1
      · cases h
    · exact gen h
  · split at h
    · rename_i hf
      subst hf
      split at h
      · rename_i h1
        rw [Bool.and_eq_true, Bool.and_eq_true] at h1
        split at h
        · rename_i h2 h3
          cases h
          exact snd_i_rng2 (G.glo h1.1) (G.blt _ (by decide)) h1.2.1 h1.2.2 (A.e G h2).1 (A.e G h3).1
        · cases h
      · cases h
    · split at h
      · rename_i hf2
        subst hf2
        split at h
        · rename_i h1
          rw [Bool.and_eq_true, Bool.and_eq_true, Bool.and_eq_true] at h1
          split at h
          · rename_i h2 h3
            cases h
            exact snd_i_zip (ht h1.1) (G.glo h1.2.1) (G.blt _ (by decide)) h1.2.2.1 h1.2.2.2 (A.e G h2).1 (A.e G h3).1
          · cases h
        · cases h
      · exact gen h
  · exact gen h
theorem step_call (A : AllAt Γ gl n) (G : Good Γ gl W c X) {f : Str} {as : List Expr} {x : CE} (h : compCall c (n + 1) f as = some x) (hg : gloC c.sc f = true) (hk : okName f = true) (p pos : Pos) : PE X (.Call (.Name f p) as [] pos) (tE X.K Γ gl W x) ∧ genT x = true := by
  obtain ⟨k1, _, _⟩ := okName_of hk
  have blt : ∀ {a : Expr} {r : List Expr} {b : Bf} {xs : CEs}, bfOf f = some b -> compEs c n (a :: r) = some xs -> PE X (.Call (.Name f p) (a :: r) [] pos) (tE X.K Γ gl W (.blt b xs)) ∧ genT (.blt b xs) = true := fun {a r b xs} h1 h2 => by
    have e := bfOf_eq h1
    subst e
    obtain ⟨_, g2, g3, _⟩ := A.es G h2
    exact ⟨snd_blt G.calm G.u70 (G.glo hg) (G.blt _ (by cases b <;> decide)) g3 g2, rfl⟩
  unfold compCall at h
  split at h
  · rename_i io q
    cases q2 : compAs c n 0 io as with
    | none => rw [q2] at h; cases h
    | some xs =>
      rw [q2] at h; cases h
      obtain ⟨g1, g2, g3⟩ := A.as_ G q2
      have C := G.fns f io q
      cases as with
      | nil => rw [g3 rfl]; exact ⟨snd_call0 G.tk C (G.glo hg) k1, rfl⟩
      | cons a r => exact ⟨snd_call G.tk C (G.glo hg) k1 g2 g1, rfl⟩
  · split at h
    · split at h
      · rename_i hf
        subst hf
        split at h
        · rename_i t y h1 h2 h3
          cases h
          rw [Bool.and_eq_true] at h2
          have e := tfOf_eq h1
          subst e
          exact ⟨snd_isi (G.glo hg) (G.blt _ (by decide)) (G.glo h2.1) (G.blt _ (by cases t <;> decide)) h2.2 (A.e G h3).1, rfl⟩
        · rename_i y h1 h2 h3
          split at h
          · rename_i o yes no hl
            split at h
            · rename_i h4
              cases h
              rw [Bool.and_eq_true] at h2
              rw [Bool.and_eq_true, Bool.or_eq_true, decide_eq_true_eq] at h4
              exact ⟨snd_ixc G.cl hl h4.2 (G.glo hg) (G.blt _ (by decide)) (G.glo h2.1) (okName_of h4.1).1 h2.2 (A.e G h3).1, rfl⟩
            · cases h
          · cases h
        · cases h
      · split at h
        · rename_i h1 h2
          cases h
          exact blt h1 h2
        · cases h
    · cases h
    · split at h
      · rename_i hf
        obtain ⟨rfl, hf⟩ := hf
        split at h
        · rename_i h2 h3
          cases h
          rw [Bool.and_eq_true] at h2
          rcases hf with rfl | rfl
          · exact ⟨snd_sit G.calm (G.glo hg) (G.blt _ (by decide)) h2.1 h2.2 (A.e G h3).1, rfl⟩
          · exact ⟨snd_sky G.calm G.u70 (G.glo hg) (G.blt _ (by decide)) h2.1 h2.2 (A.e G h3).1, rfl⟩
        · cases h
      · split at h
        · rename_i h1 h2
          cases h
          exact blt h1 h2
        · cases h
    · split at h
      · rename_i hf
        obtain ⟨rfl, rfl⟩ := hf
        split at h
        · rename_i h2 h3
          cases h
          rw [Bool.and_eq_true] at h2
          exact ⟨snd_lrv G.calm (G.glo hg) (G.blt _ (by decide)) (G.glo h2.1) (G.blt _ (by decide)) h2.2 (A.e G h3).1, rfl⟩
        · cases h
      · split at h
        · rename_i hf
          obtain ⟨rfl, rfl⟩ := hf
          split at h
          · rename_i h2 h3
            cases h
            rw [Bool.and_eq_true] at h2
            exact ⟨snd_sst G.calm G.u70 (G.glo hg) (G.blt _ (by decide)) (G.glo h2.1) (G.blt _ (by decide)) h2.2 (A.e G h3).1, rfl⟩
          · cases h
        · split at h
          · rename_i h1 h2
            cases h
            exact blt h1 h2
          · cases h
    · split at h
      · rename_i h1 h2
        cases h
        cases as with
        | nil => exfalso; simp_all
        | cons a r => exact blt h1 h2
      · cases h
theorem step_e (A : AllAt Γ gl n) (G : Good Γ gl W c X) {e : Expr} {x : CE} (h : compE c (n + 1) e = some x) : PE X e (tE X.K Γ gl W x) ∧ (noIf e = true -> PT X e (tT X.K Γ gl W x)) := by
  unfold compE at h
  split at h
  · -- a name
    rename_i y p
    split at h
    · rename_i i q
      cases h
      obtain ⟨h1, h2, h3, h4⟩ := G.slot q
      exact both (snd_slot (pos := p) h1 h2 h3 h4) rfl fun _ => rfl
    · split at h
      · rename_i z
        cases h
        rw [Bool.and_eq_true, Bool.and_eq_true] at z
        obtain ⟨z1, z2, z3⟩ := z
        obtain ⟨k1, _, _⟩ := okName_of z2
        obtain ⟨g1, g2⟩ := G.gls y z3
        have g : PE X (.Name y p) (tE X.K Γ gl W (.glb y)) := snd_glb (fun dt hd => by
          obtain ⟨v, u, e1, e2, e3⟩ := g2 dt hd
          exact ⟨v, pe_glob (G.glo z1) e1 e2 k1, e3⟩) g1
        exact ⟨g, fun _ => snd_tgen rfl g fun _ => rfl⟩
      · cases h
  · -- a constant
    rename_i k j p
    obtain ⟨d, q, rfl⟩ := orMap h
    have g : PE X (.Constant k j p) (tE X.K Γ gl W (.con d)) := by
      cases k with
      | none => cases q; exact snd_con pe_non fun _ => .non
      | bool b => cases q; exact snd_con pe_bl fun _ => .bl _
      | int i => cases q; exact snd_con pe_int fun _ => .int _
      | str z => cases q; exact snd_con pe_str fun _ => .str _
      | _ => cases q
    exact ⟨g, fun _ => snd_tgen rfl g fun _ => rfl⟩
  · -- an operator
    split at h
    · rename_i h1 h2
      cases h
      exact both (snd_bin (A.e G h1).1 (A.e G h2).1) rfl fun _ => rfl
    · cases h
  · obtain ⟨y, q, rfl⟩ := orMap h
    exact both (snd_neg (A.e G q).1) rfl fun _ => rfl
  · split at h
    · rename_i h1
      obtain ⟨y, q, rfl⟩ := orMap h
      obtain ⟨g1, g2⟩ := A.e G q
      exact ⟨snd_nt g1, fun _ => snd_tnt (g2 h1)⟩
    · cases h
  · obtain ⟨g1, g2⟩ := A.an G h _
    exact ⟨g1, fun _ => g2.pt⟩
  · obtain ⟨g1, g2⟩ := A.or G h _
    exact ⟨g1, fun _ => g2.pt⟩
  · split at h
    · rename_i h0 h1 h2
      cases h
      exact ⟨snd_cmp G.u65 (bim_no h0) (A.e G h1).1 (A.e G h2).1, fun _ => snd_tcmp G.u65 (bim_no h0) (A.e G h1).1 (A.e G h2).1⟩
    · cases h
  · split at h
    · rename_i h0 h1 h2 h3
      cases h
      rw [Bool.and_eq_true] at h0
      exact ⟨snd_cmp2 G.u65 (lm_no h0.2) (A.e G h1).1 (A.e G h2).1 (A.e G h3).1, fun _ => snd_tcmp2 G.u65 (lm_no h0.2) (A.e G h1).1 (A.e G h2).1 (A.e G h3).1⟩
    · cases h
  · split at h
    · rename_i h0 h1 h2 h3
      cases h
      exact ⟨snd_ife ((A.e G h1).2 h0) (A.e G h2).1 (A.e G h3).1, fun z => by cases z⟩
    · cases h
  · obtain ⟨y, q, rfl⟩ := orMap h
    obtain ⟨g1, _⟩ := A.es G q
    exact both (snd_tup g1) rfl fun _ => rfl
  · obtain ⟨y, q, rfl⟩ := orMap h
    obtain ⟨g1, _⟩ := A.es G q
    exact both (snd_lst g1) rfl fun _ => rfl
  · split at h
    · rename_i h0
      rw [Bool.and_eq_true, Bool.and_eq_true, decide_eq_true_eq, decide_eq_true_eq] at h0
      obtain ⟨y, q, rfl⟩ := orMap h
      obtain ⟨trs, g⟩ := A.ps G q
      exact both (snd_dsp g h0.1 h0.2.1 h0.2.2) rfl fun _ => rfl
    · cases h
  · split at h
    · rename_i h1 h2 h3
      cases h
      exact both (snd_slc (A.e G h1).1 (A.o G h2) (A.o G h3)) rfl fun _ => rfl
    · cases h
  · split at h
    · rename_i h0 h1 h2
      cases h
      exact both (snd_idx (plainIx_of h0) (A.e G h1).1 (A.e G h2).1) rfl fun _ => rfl
    · cases h
  · split at h
    · rename_i h0
      rw [Bool.and_eq_true] at h0
      obtain ⟨g, k⟩ := A.call G h h0.1 h0.2 _ _
      exact ⟨g, fun _ => snd_tgen k g fun _ => rfl⟩
    · cases h
  · split at h
    · rename_i h0 h1 h2 h3
      cases h
      rw [Bool.and_eq_true, Bool.and_eq_true, decide_eq_true_eq] at h0
      have e := mfOf_eq h1
      subst e
      obtain ⟨g1, _, g2, g3⟩ := A.es G h3
      exact both (snd_mth (by have := G.u65; omega) h0.1 h0.2.1 h0.2.2 g2 (A.e G h2).1 g1 g3) rfl fun _ => rfl
    · cases h
  · split at h
    · rename_i hf
      obtain ⟨rfl, rfl⟩ := hf
      split at h
      · rename_i h0 h1 h2
        cases h
        rw [Bool.and_eq_true, Bool.and_eq_true, Bool.and_eq_true] at h0
        obtain ⟨k1, k2, k3, k4⟩ := h0
        exact both (snd_srt G.u70 (G.fns _ _ h1) (G.glo k1) (G.blt _ (by decide)) (G.glo k2) (okName_of k3).1 k4 (A.e G h2).1) rfl fun _ => rfl
      · cases h
    · cases h
  · obtain ⟨ce, ct, cit, cco, own, rfl, ok, hi, hg, ht, he, hs⟩ := A.lc G h
    rename_i elt tg it ifs scope p
    have g : PE X (.ListComp elt [⟨tg, it, ifs, 0⟩] scope p) (tE X.K Γ gl W (.lc ce ct cit cco (own.map (·.2)))) := PE.imp (pe_lc G.calm G.nd hi ok hg ht he hs) (snd_lc (pos := p) G.calm G.nd hi ok hg ht he hs)
    exact ⟨g, fun _ => snd_tgen rfl g fun _ => rfl⟩
  · cases h
theorem allS (A : AllAt Γ gl n) : AllAt Γ gl (n + 1) where
  t := fun G => fun h => step_t A G h
  ts := fun G => fun h => step_ts A G h
  e := fun G => fun h => step_e A G h
  call := fun G => fun h => step_call A G h
  an := fun G => fun h => step_an A G h
  or := fun G => fun h => step_or A G h
  es := fun G => fun h => step_es A G h
  as_ := fun G => fun h => step_as A G h
  ps := fun G => fun h => step_ps A G h
  a1 := fun G => fun h => step_a1 A G h
  o := fun G => fun h => step_o A G h
  i := fun G => fun h => step_i A G h
  lc := fun G => fun h => step_lc A G h
  ifs := fun G => fun h => step_ifs A G h
end
theorem allAt (Γ : Calls) (gl : Str -> Option D) : ∀ n, AllAt Γ gl n
  | 0 => all0
  | n + 1 => allS (allAt Γ gl n)
end DE

/-! DE18: statements as compiled; defs. -/
namespace DE
open PySem PySem.Spec PyProof.Rows L2
section
variable {Γ : Calls} {gl : Str -> Option D} {W : WX} {c : CC} {X : Cx} {m : Nat}
theorem test_of {n : Nat} (G : Good Γ gl W c X) {e : Expr} {x : CE} (h : compTest c n e = some x) : PT X e (tT X.K Γ gl W x) := by
  unfold compTest at h
  split at h
  · rename_i h0
    exact ((allAt Γ gl n).e G h).2 h0
  · cases h
theorem swC_of (G : Good Γ gl W c X) {y : Str} {py : Pos} {e : Expr} (h : swC c y py e = true) : ∃ elt gs scope pos, e = .ListComp elt gs scope pos ∧ X.env.scope.names.lookup y = some .local ∧ ∀ l, swapsWith e (some (.Name y py)) l X.env = pure true := by
  cases e with
  | ListComp elt gs scope pos =>
    unfold swC at h
    simp only [Bool.and_eq_true, Bool.not_eq_true'] at h
    obtain ⟨⟨h1, h2⟩, h3, h4⟩ := h
    have hk : X.env.scope.kind = .function := by
      rw [G.sc]
      split at h1
      · assumption
      · cases h1
    have hy : X.env.scope.names.lookup y = some .local := by
      rw [G.sc]
      split at h2
      · assumption
      · cases h2
    exact ⟨elt, gs, scope, pos, rfl, hy, fun l => sw_true hk hy h3 h4⟩
  | _ => simp [swC] at h
theorem dd_of {n : Nat} (G : Good Γ gl W c X) {ss : List Stmt} {x : CS} (h : compDd c n ss = some x) : PSs X ss (tSs X.K Γ gl W m (.cons x .nil)) := by
  unfold compDd at h
  split at h
  · split at h
    · rename_i hq
      obtain ⟨⟨rfl, rfl, rfl⟩, rfl, rfl, rfl⟩ := hq
      split at h
      · rename_i h1 h2 h3 h4 h5 h6 h7
        cases h
        simp only [Bool.and_eq_true] at h7
        obtain ⟨b1, b2, b3, b4, b5⟩ := h7
        obtain ⟨k1, k2, k3⟩ := G.store h1
        obtain ⟨_, v1, v2, v3⟩ := G.slot h2
        obtain ⟨k4, k5, k6⟩ := G.store h3
        obtain ⟨_, v4, v5, v6⟩ := G.slot h4
        refine PSs.imp (snd_ddk G.u70 G.po G.calm G.nd k1 k2 k3 v1 v2 v3 k4 k5 k6 v4 v5 v6 ((allAt Γ gl n).i G h5 _ (fun z => by cases z)) (fun z => fold_no b1 z) (G.fns _ _ h6) (G.glo b2) (G.blt _ (by decide)) (G.glo b3) (okName_of b4).1 b5) fun E σ H ⟨x, F, δ, R, p⟩ => ⟨x, F, δ, R, ?_⟩
        simp only [execSs, execS] at p
        generalize ddkE Γ gl _ _ _ _ δ = o at p ⊢
        cases o with
        | ok f δ1 => cases f <;> exact p
        | ex e δ1 => exact p
        | no => exact p
      · cases h
    · cases h
  · cases h
/-- a def's own frame -/
structure FrmOk (X : Cx) : Prop where
  hs : X.stack = X.env :: X.outer
  hf : X.env.frame = some X.env.locals
  ex : X.ex = []
theorem snd_S : ∀ (n : Nat) (W : WX) (X : Cx), Good Γ gl W c X -> FrmOk X -> (∀ s x, compS c n s = some x -> PS X s (tS X.K Γ gl W m x)) ∧ ∀ ss x, compSs c n ss = some x -> PSs X ss (tSs X.K Γ gl W m x)
  | 0, W, X => fun G FO => ⟨fun s x h => (by unfold compS at h; cases h), fun s x h => (by unfold compSs at h; cases h)⟩
  | n + 1, W, X => fun G FO => by
    obtain ⟨ihs, ihss⟩ := snd_S n W X G FO
    have A := allAt Γ gl n
    refine ⟨fun s x h => ?_, fun ss x h => ?_⟩
    · unfold compS at h
      split at h
      · split at h
        · rename_i h0
          obtain ⟨y, q, rfl⟩ := orMap h
          exact snd_s_expr (A.e G q).1 (sw_no h0)
        · cases h
      · split at h
        · rename_i y py e p o1 o2 o3 i z h0 h1 h2
          cases h
          obtain ⟨k1, k2, k3⟩ := G.store h1
          rw [Bool.or_eq_true] at h0
          rcases h0 with h0 | h0
          · obtain ⟨elt, gs, scope, pos, rfl, hy, hsw⟩ := swC_of G h0
            cases n with
            | zero => unfold compE at h2; cases h2
            | succ n =>
              unfold compE at h2
              split at h2
              all_goals first | (exfalso; rename_i z; exact Expr.noConfusion z) | skip
              · rename_i hq
                cases hq
                obtain ⟨ce, ct, cit, cco, own, rfl, ok, hi, hg, ht, he, hs⟩ := (allAt Γ gl n).lc G h2
                exact snd_s_setLc G.calm G.nd k1 hy (hsw _) hi ok hg ht he hs
              · cases h2
          · exact snd_s_asg G.nd k1 k2 k3 (A.e G h2).1 (sw_no h0)
        · cases h
      · split at h
        · rename_i h0 h1 h2
          cases h
          rw [Bool.and_eq_true] at h0
          exact snd_s_asgT h0.1 h0.2 (A.e G h2).1 (A.t G h1)
        · cases h
      · split at h
        · rename_i h0 h1 h2 h3
          cases h
          rw [Bool.and_eq_true] at h0
          obtain ⟨k1, k2, k3, k4⟩ := G.slot h1
          exact snd_s_seti (by have := G.u65; omega) k1 k2 k3 k4 h0.1 h0.2 (A.e G h2).1 (A.e G h3).1
        · cases h
      · split at h
        · rename_i h1 h2
          cases h
          obtain ⟨k1, k2, k3⟩ := G.store h1
          exact snd_s_aug G.nd k1 k2 k3 (A.e G h2).1
        · cases h
      · split at h
        · rename_i h1 h2 h3
          cases h
          exact snd_s_if (test_of G h1) (ihss _ _ h2) (ihss _ _ h3)
        · cases h
      · split at h
        · rename_i h1 h2
          cases h
          exact snd_s_while G.po (test_of G h1) (ihss _ _ h2)
        · cases h
      · split at h
        · rename_i h1 h2 h3 h4
          cases h
          exact snd_s_for G.po G.calm (A.i G h3 _ id) (A.t G h1) (ihss _ _ h4) (fun z => fold_no h2 z)
        · cases h
      · obtain ⟨y, q, rfl⟩ := orMap h
        exact snd_s_ret (A.e G q).1
      · cases h; exact snd_s_retN
      · cases h; exact snd_s_pass
      · cases h; exact snd_s_brk
      · cases h; exact snd_s_cont
      · split at h
        · rename_i h0
          simp only [Bool.and_eq_true] at h0
          obtain ⟨b1, b2, b3, b4⟩ := h0
          split at h
          · rename_i h1
            cases h
            exact snd_rais G.cl b1 G.calm G.tk (G.glo b2) (okName_of b3).1 b4 (A.e G h1).1
          · cases h; exact snd_s_nev
        · cases h; exact snd_s_nev
      · cases h; exact snd_s_nev
      · split at h
        · rename_i h0
          obtain ⟨rfl, h0⟩ := h0
          simp only [Bool.and_eq_true] at h0
          obtain ⟨b1, b2, b3⟩ := h0
          split at h
          · rename_i h1 h2 h3 h4 h5
            cases h
            obtain ⟨k1, _, _⟩ := G.store h1
            obtain ⟨_, v1, v2, v3⟩ := G.slot h2
            obtain ⟨k4, k5, k6⟩ := G.store h3
            refine snd_tryx G.cl h5 FO.hs FO.hf FO.ex G.nd k1 ?_ v1 v2 v3 k4 k5 k6 (G.glo b1) (okName_of b2).1 G.tk fun W' pn xe tk po => ?_
            · show X.env.scope.names.lookup _ = _
              rw [G.sc]
              unfold locN at b3
              split at b3
              · assumption
              · cases b3
            · exact (snd_S n W' (X.tr pn xe) ⟨G.nd, G.n, G.sc, G.st, G.calm, G.units, G.fns, G.gls, G.blt, tk, po, G.cl⟩ ⟨FO.hs, FO.hf, FO.ex⟩).2 _ _ h4
          · cases h
        · cases h
      · cases h
    · unfold compSs at h
      split at h
      · cases h; exact snd_s_nil
      · split at h
        · rename_i q
          cases h
          exact dd_of G q
        · split at h
          · rename_i h1 h2
            cases h
            exact snd_s_cons (ihs _ _ h1) (ihss _ _ h2)
          · cases h
end
end DE

/-! DE19: a def keeps what its body tells over data. -/
namespace DE
open PySem PySem.Spec PyProof.Rows L2
open Classical in
noncomputable def frmOf (H : Hp) (vs : List V) (cs : List Cell) : Hp := fun a => if inpAt vs cs a then none else H a
theorem frmOf_in {H : Hp} {vs : List V} {cs : List Cell} {a : Addr} (h : inpAt vs cs a) : frmOf H vs cs a = none := by unfold frmOf; rw [if_pos h]
theorem frmOf_out {H : Hp} {vs : List V} {cs : List Cell} {a : Addr} (h : ¬ inpAt vs cs a) : frmOf H vs cs a = H a := by unfold frmOf; rw [if_neg h]
def parOf (vs : List V) (cs : List Cell) : List (Nat × Addr) := (List.range cs.length).filterMap fun (j : Nat) => match (vs[j]? : Option V), (cs[j]? : Option Cell) with
  | some (V.ref a), some (Cell.inp _) => some (j, a)
  | _, _ => none
theorem parOf_mem {vs : List V} {cs : List Cell} {j : Nat} {a : Addr} : (j, a) ∈ parOf vs cs ↔ vs[j]? = some (.ref a) ∧ ∃ d, cs[j]? = some (.inp d) := by
  unfold parOf
  rw [List.mem_filterMap]
  constructor
  · rintro ⟨i, hi, h⟩
    split at h
    · rename_i b d h1 h2
      cases h
      exact ⟨h1, d, h2⟩
    · cases h
  · rintro ⟨h1, d, h2⟩
    refine ⟨j, ?_, ?_⟩
    · rw [List.mem_range]; exact (List.getElem?_eq_some_iff.mp h2).1
    · rw [h1, h2]
section
variable {K : PySem.W.Frag} {F H : Hp}
theorem ArgC.get : ∀ {vs : List V} {cs : List Cell} {j : Nat} {c : Cell}, ArgC K F H vs cs -> cs[j]? = some c -> ∃ v, vs[j]? = some v ∧ ((∃ d, c = .pure d ∧ Dat K F v d) ∨ ∃ d a, c = .inp d ∧ v = .ref a ∧ OwnAt K F H a d ∧ F a = none)
  | _, _, _, _, .nil, h => by simp at h
  | _, _, 0, _, .pure h1 _, h => by simp at h; subst h; exact ⟨_, rfl, .inl ⟨_, rfl, h1⟩⟩
  | _, _, 0, _, .inp h1 h2 _, h => by simp at h; subst h; exact ⟨_, rfl, .inr ⟨_, _, rfl, rfl, h1, h2⟩⟩
  | _, _, j + 1, _, .pure _ t, h => by
    obtain ⟨v, h1, h2⟩ := ArgC.get (j := j) t (by simpa using h)
    exact ⟨v, by simpa using h1, h2⟩
  | _, _, j + 1, _, .inp _ _ t, h => by
    obtain ⟨v, h1, h2⟩ := ArgC.get (j := j) t (by simpa using h)
    exact ⟨v, by simpa using h1, h2⟩
theorem start_get {N : List Str} {vs : List V} {i : Nat} {v : V} (h : vs[i]? = some v) : (L2.start N vs)[i]? = some (some v) := by
  unfold L2.start
  have hi := (List.getElem?_eq_some_iff.mp h).1
  rw [List.getElem?_append_left (by rw [List.length_map]; exact hi), List.getElem?_map, h]; rfl
theorem start_lt {N : List Str} {vs : List V} {i : Nat} {v : V} (h : (L2.start N vs)[i]? = some (some v)) : vs[i]? = some v := by
  unfold L2.start at h
  by_cases hi : i < vs.length
  · rw [List.getElem?_append_left (by rw [List.length_map]; exact hi), List.getElem?_map] at h
    cases q : vs[i]? with
    | none => rw [q] at h; cases h
    | some w => rw [q] at h; cases h; rfl
  · rw [List.getElem?_append_right (by rw [List.length_map]; omega)] at h
    rw [List.getElem?_replicate] at h
    split at h <;> cases h
def envOf (N : List Str) (cs : List Cell) : DEnv := cs ++ List.replicate (N.length - cs.length) .emp
theorem envOf_get {N : List Str} {cs : List Cell} {i : Nat} {c : Cell} (h : (envOf N cs)[i]? = some c) : c = .emp ∨ cs[i]? = some c := by
  unfold envOf at h
  by_cases hi : i < cs.length
  · rw [List.getElem?_append_left hi] at h; exact .inr h
  · rw [List.getElem?_append_right (by omega), List.getElem?_replicate] at h
    split at h
    · cases h; exact .inl rfl
    · cases h
/-- at the entry -/
theorem rel_start {N : List Str} {vs : List V} {cs : List Cell} (s : Same F H) (h : ArgC K F H vs cs) (ap : Apart vs cs) (hl : cs.length ≤ N.length) : Rel K ⟨F, frmOf H vs cs, parOf vs cs⟩ F (L2.start N vs) H (envOf N cs) := by
  have own : ∀ {i : Nat} {c : Cell}, (envOf N cs)[i]? = some c -> c.isOwn = true -> ∃ d a, cs[i]? = some (.inp d) ∧ vs[i]? = some (.ref a) ∧ OwnAt K F H a d ∧ F a = none := fun {i c} e o => by
    rcases envOf_get e with rfl | e
    · cases o
    · obtain ⟨v, h1, h2⟩ := h.get e
      rcases h2 with ⟨d, rfl, _⟩ | ⟨d, a, rfl, rfl, h3, h4⟩
      · cases o
      · exact ⟨d, a, e, h1, h3, h4⟩
  refine ⟨?_, s, fun a o e => ?_, Same.refl _, fun a e => .inl e, fun i c e => ?_, fun i c a e o w => ?_, fun i j c e a nij h1 o1 h2 o2 w => ?_, fun p hp => ?_, fun i d e => ?_⟩
  · unfold L2.start envOf
    rw [List.length_append, List.length_append, List.length_map, List.length_replicate, List.length_replicate, h.length]
  · have e : frmOf H vs cs a = some o := e
    by_cases z : inpAt vs cs a
    · rw [frmOf_in z] at e; cases e
    · rw [frmOf_out z] at e; exact e
  · rcases envOf_get e with rfl | e
    · trivial
    · obtain ⟨v, h1, h2⟩ := h.get e
      rcases h2 with ⟨d, rfl, h3⟩ | ⟨d, a, rfl, rfl, h3, h4⟩
      · exact ⟨v, start_get h1, h3⟩
      · exact ⟨a, start_get h1, h3⟩
  · obtain ⟨d, b, h1, h2, h3, h4⟩ := own e o
    have w := start_lt w
    rw [h2] at w; cases w
    exact ⟨h4, frmOf_in ⟨i, d, h2, h1⟩⟩
  · obtain ⟨d, b, g1, g2, g3, g4⟩ := own h1 o1
    obtain ⟨d', b', f1, f2, f3, f4⟩ := own h2 o2
    have w := start_lt w
    intro w2
    have w2 := start_lt w2
    exact ap i j a d d' nij w g1 w2 f1
  · obtain ⟨j, a⟩ := p
    obtain ⟨h1, d, h2⟩ := parOf_mem.mp hp
    refine ⟨start_get h1, d, ?_⟩
    unfold envOf
    rw [List.getElem?_append_left (List.getElem?_eq_some_iff.mp h2).1]; exact h2
  · obtain ⟨d', a, h1, h2, _⟩ := own e rfl
    exact ⟨a, parOf_mem.mpr ⟨h2, d', h1⟩, start_get h2⟩
/-- at the end -/
theorem rel_end {vs : List V} {cs : List Cell} {k : Nat} {F' H' : Hp} {σ : L2.St} {δ : DEnv} (hk : cs.length = k) (R : Rel K ⟨F, frmOf H vs cs, parOf vs cs⟩ F' σ H' δ) : CGrw K F H vs cs (outsOf k δ) F' H' := by
  have io : ∀ {j : Nat} {a : Addr} {d : D}, vs[j]? = some (.ref a) -> cs[j]? = some (.inp d) -> F' a = none ∧ ∃ d', δ[j]? = some (.inp d') ∧ OwnAt K F' H' a d' := fun {j a d} h1 h2 => by
    obtain ⟨h3, d', h4⟩ := R.par (j, a) (parOf_mem.mpr ⟨h1, d, h2⟩)
    obtain ⟨b, h5, h6⟩ : SlotR K F' H' σ[j]? (.inp d') := R.slot j _ h4
    have h3 : σ[j]? = some (some (V.ref a)) := h3
    rw [h3] at h5; cases h5
    exact ⟨(R.own j _ a h4 rfl h3).1, d', h4, h6⟩
  refine ⟨R.f0, R.sub, fun a o e z => R.frm a o ((frmOf_out z).trans e), fun a e1 e2 => ?_, fun j a d h1 h2 => ?_⟩
  · rcases R.ext a e2 with z | z
    · exact absurd e1 z
    · have z : frmOf H vs cs a = none := z
      by_cases w : inpAt vs cs a
      · obtain ⟨j, d, h1, h2⟩ := w
        exact absurd (io h1 h2).1 e2
      · rw [frmOf_out w] at z; exact z
  · obtain ⟨h3, d', h4, h5⟩ := io h1 h2
    refine ⟨h3, d', ?_, h5⟩
    unfold outsOf
    rw [List.getElem?_take_of_lt]
    · exact h4
    · rw [← hk]; exact (List.getElem?_eq_some_iff.mp h2).1
theorem res_end {vs : List V} {cs : List Cell} {F' H' : Hp} {σ : L2.St} {δ : DEnv} {v : V} {c : Cell} (R : Rel K ⟨F, frmOf H vs cs, parOf vs cs⟩ F' σ H' δ) (h : ResF K ⟨F, frmOf H vs cs, parOf vs cs⟩ F' H' σ δ v c) : ResC K H F' H' v c := by
  cases c with
  | emp => exact h
  | inp _ => exact h
  | pure d => exact h
  | own d =>
    obtain ⟨a, rfl, h1, h2, h3, h4⟩ := h
    refine ⟨a, rfl, h1, h2, ?_⟩
    have h3 : frmOf H vs cs a = none := h3
    by_cases w : inpAt vs cs a
    · obtain ⟨j, d, g1, g2⟩ := w
      obtain ⟨e1, d', e2⟩ := R.par (j, a) (parOf_mem.mpr ⟨g1, d, g2⟩)
      exact absurd e1 (h4 j _ e2 rfl)
    · rw [frmOf_out w] at h3; exact h3
end
/-! ### the defs of a text -/
/-- one def as it stands, and as it is compiled -/
structure DefAt (K : PySem.W.Frag) (mg : Str -> Option Value) (tab : Str -> Option CDef) (fns : List (Str × List Nat)) (gls : List Str) (xt : ExT) (f : Str) (a : Addr) (fd : FuncData) (d : CDef) : Prop where
  ex : ∃ qual st n0, Fun K f qual st a fd ∧ fnScopeB d.N d.ps (defScope st) = true ∧ compSs ⟨d.N, defScope st, defScope st, fns, gls, xt⟩ n0 (defBody st) = some d.body
  tab : tab f = some d
  mg : mg f = some (.ref a)
  binds : Binds K fd d.ps []
structure Text (K : PySem.W.Frag) (mg : Str -> Option Value) (tab : Str -> Option CDef) (gl : Str -> Option D) (fns : List (Str × List Nat)) (gls : List Str) (xt : ExT) : Prop where
  defs : ∀ f io, fns.lookup f = some io -> ∃ a fd d, DefAt K mg tab fns gls xt f a fd d
  gls : ∀ y, gls.contains y = true -> gl y ≠ none ∧ ∀ dt, gl y = some dt -> ∃ v u, mg y = some u ∧ RelV v u ∧ ∀ F, Dat K F v dt
  blt : ∀ x, x ∈ allB -> mg x = none
  cl : ClsOk K mg xt
section
variable {P : Program} {w : World} {K : PySem.W.Frag} {mg : Str -> Option Value} {base : Heap} {tab : Str -> Option CDef} {gl : Str -> Option D} {fns : List (Str × List Nat)} {gls : List Str} {xt : ExT} {m : Nat}
theorem spD_no {Γ : Calls} {f : Str} {vs : List V} {H : Hp} {Q : VK} {E : XK} (h : ∀ cs, Γ f cs = .no) : ¬ spD K Γ f vs H Q E := by
  rintro ⟨F, cs, _, _, _, z⟩
  rw [h cs] at z
  exact z
theorem room_in2 {k : Nat} {A : Around} (r : Room (k + 1) A) : Room k A.in1.in1 :=
  ⟨r.hd, by have := r.dp; show A.depth + 3 * k + 5 < _; omega, by have := r.un; show A.units + 1 + 1 + 16 * k + 200 < _; omega⟩
theorem def_ok (T : Text K mg tab gl fns gls xt) : ∀ (n : Nat) {f : Str} {a : Addr} {fd : FuncData} {d : CDef}, DefAt K mg tab fns gls xt f a fd d -> FnOk P w K mg base (L2.CX P w) (2 * n) a fd d.ps (spD K (callD tab gl m n) f)
  | 0, f, a, fd, d, _ => ⟨fun vs H Q E h => absurd h (spD_no fun _ => rfl), fun A outer s H args us vs Q E _ _ _ _ h => absurd h (spD_no fun _ => rfl)⟩
  | n + 1, f, a, fd, d, D0 => by
    obtain ⟨qual, st, n0, Fn, hS, hcomp⟩ := D0.ex
    have S := fnScope_of hS
    have hpl : d.ps.length ≤ d.N.length := by have := congrArg List.length S.pre; rw [List.length_take] at this; omega
    have hcall : ∀ cs, callD tab gl m (n + 1) f cs = runBody (callD tab gl m n) gl m d cs := fun cs => by
      simp only [callD, D0.tab]
    show FnOk P w K mg base (L2.CX P w) (2 * n + 1 + 1) a fd d.ps _
    refine Fn.okX S (fun vs H Q E h => ?_) fun cdv A outer s H vs Q E hr hsp => ?_
    · obtain ⟨F, cs, _, h1, _, h2⟩ := h
      rw [hcall] at h2
      unfold runBody at h2
      by_cases hl : cs.length = d.ps.length
      · rw [h1.length, hl]
      · rw [if_neg hl] at h2; exact h2.elim
    · obtain ⟨F, cs, sF, h1, ap, h2⟩ := hsp
      rw [hcall] at h2
      unfold runBody at h2
      by_cases hl : cs.length = d.ps.length
      · rw [if_pos hl] at h2
        have G : Good (callD tab gl m n) gl (fun cls d _ H => E cls d H) ⟨d.N, defScope st, defScope st, fns, gls, xt⟩ (cxOf (L2.CX P w) P w K mg base d.N qual (defScope st) a cdv A outer s H E) := {
          nd := S.nd
          n := rfl
          sc := rfl
          st := fun _ _ => .inl rfl
          calm := rfl
          units := by have := hr.un; show (A.deeper _).units + 100 < cLine; omega
          fns := fun g io hg => by
            obtain ⟨a', fd', d', D1⟩ := T.defs g io hg
            obtain ⟨_, _, _, Fn', _⟩ := D1.ex
            exact ⟨2 * n, a', fd', d'.ps, ⟨hr.mono (by omega), room_in2 (hr.mono (by omega))⟩, D1.mg, Fn'.kp, D1.binds, def_ok T n D1⟩
          gls := T.gls
          blt := T.blt
          tk := takes_of rfl rfl rfl rfl
          po := passes_of rfl
          cl := T.cl }
        refine ⟨_, (snd_S (m := m) n0 _ _ G ⟨rfl, rfl, rfl⟩).2 _ _ hcomp, ⟨F, frmOf H vs cs, parOf vs cs⟩, F, envOf d.N cs, rel_start sF h1 ap (by omega), ?_⟩
        have eE : cs ++ List.replicate (d.N.length - cs.length) Cell.emp = envOf d.N cs := rfl
        rw [eE] at h2
        cases e : execSs (callD tab gl m n) gl m d.body (envOf d.N cs) with
        | no => rw [e] at h2; exact h2.elim
        | ex ee δ =>
          rw [e] at h2
          exact fun F' H' σ' cls dd R s' r => h2 F' H' cls dd (rel_end hl R) r
        | ok fl δ =>
          rw [e] at h2
          cases fl with
          | nx => exact fun F' H' σ' R s' => h2 F' H' .non (rel_end hl R) .non
          | rt c => exact fun F' H' σ' v R s' r => h2 F' H' v (rel_end hl R) (res_end R r)
          | bk => exact h2.elim
          | ct => exact h2.elim
      · rw [if_neg hl] at h2; exact h2.elim
end
end DE

/-! DE20: the top of a text: its defs, its constants; the law's end. -/
namespace DE
open PySem PySem.Spec PyProof.Rows L2
/-! ### constants of the module -/
def datB (K : PySem.W.Frag) : Nat -> D -> Value -> Bool
  | 0, _, _ => false
  | n + 1, d, u => match d, u with
    | .none, .none => true
    | .bool b, .bool c => decide (b = c)
    | .int i, .int j _ => decide (i = j)
    | .str x, .str y _ => decide (x = y)
    | .tuple ds, .ref a => match K.lookup a with
      | some ⟨.type c, none, .seq its _, _⟩ => decide (c = "tuple") && (decide (its.size ≤ sizeLine) && (decide (ds.length = its.toList.length) && (ds.zip its.toList).all fun p => datB K n p.1 p.2))
      | _ => false
    | .list ds, .ref a => match K.lookup a with
      | some ⟨.type c, none, .seq its _, _⟩ => decide (c = "list") && (decide (its.size ≤ sizeLine) && (decide (ds.length = its.toList.length) && (ds.zip its.toList).all fun p => datB K n p.1 p.2))
      | _ => false
    | _, _ => false
theorem datL_of {K : PySem.W.Frag} {p : D -> Value -> Bool} (hp : ∀ d u, p d u = true -> ∃ v, RelV v u ∧ ∀ F, Dat K F v d) : ∀ (ds : List D) (us : List Value), ds.length = us.length -> ((ds.zip us).all fun q => p q.1 q.2) = true -> ∃ vs, Vals vs us ∧ ∀ F, DatL K F vs ds
  | [], [], _, _ => ⟨[], .nil, fun _ => .nil⟩
  | d :: ds, u :: us, hl, h => by
    rw [List.zip_cons_cons, List.all_cons, Bool.and_eq_true] at h
    obtain ⟨v, r, hv⟩ := hp d u h.1
    obtain ⟨vs, rs, hvs⟩ := datL_of hp ds us (by simpa using hl) h.2
    exact ⟨v :: vs, .cons r rs, fun F => .cons (hv F) (hvs F)⟩
theorem datB_ok {K : PySem.W.Frag} : ∀ (n : Nat) (d : D) (u : Value), datB K n d u = true -> ∃ v, RelV v u ∧ ∀ F, Dat K F v d
  | 0, _, _, h => by unfold datB at h; cases h
  | n + 1, d, u, h => by
    unfold datB at h
    split at h
    · exact ⟨.non, rfl, fun _ => .non⟩
    · cases of_decide_eq_true h; exact ⟨.bl _, rfl, fun _ => .bl _⟩
    · cases of_decide_eq_true h; exact ⟨.int _, ⟨_, rfl⟩, fun _ => .int _⟩
    · cases of_decide_eq_true h; exact ⟨.str _, ⟨_, rfl⟩, fun _ => .str _⟩
    · split at h
      · rename_i ds a _ c its m osl q
        simp only [Bool.and_eq_true, decide_eq_true_eq] at h
        obtain ⟨h1, h2, h3, h4⟩ := h
        obtain ⟨vs, rs, hvs⟩ := datL_of (datB_ok n) _ _ h3 h4
        exact ⟨.ref a, rfl, fun F => .tup ⟨.inr ⟨_, its, m, q, congrArg Value.type h1, rfl, h2, rs⟩, .inr ⟨_, q, rfl⟩⟩ (hvs F)⟩
      · cases h
    · split at h
      · rename_i ds a _ c its m osl q
        simp only [Bool.and_eq_true, decide_eq_true_eq] at h
        obtain ⟨h1, h2, h3, h4⟩ := h
        obtain ⟨vs, rs, hvs⟩ := datL_of (datB_ok n) _ _ h3 h4
        exact ⟨.ref a, rfl, fun F => .lst (.inr ⟨_, its, m, q, congrArg Value.type h1, rfl, rfl, h2, rs⟩) (hvs F)⟩
      · cases h
    · cases h
def conB (K : PySem.W.Frag) (p : Str × D) : Bool := match PySem.W.nsIn K mainGlobals p.1 with
  | some (some u) => datB K 6 p.2 u
  | _ => false
theorem conB_ok {K : PySem.W.Frag} {h : Heap} {mg : Str -> Option Value} {p : Str × D} (X : K.In h) (G : h.Ns mainGlobals mg) (c : conB K p = true) : ∃ v u, mg p.1 = some u ∧ RelV v u ∧ ∀ F, Dat K F v p.2 := by
  unfold conB at c
  split at c
  · rename_i u q
    obtain ⟨v, r, hv⟩ := datB_ok _ _ _ c
    exact ⟨v, u, PySem.W.mg_of X G q, r, hv⟩
  · cases c
/-! ### classes of the module -/
def excCB (K : PySem.W.Frag) (D : Addr) : Bool :=
  He.eqO (PySem.W.findIn K (.ref D) "__getattribute__") (some (some (.builtin "BaseException.__getattribute__"))) && (He.eqO (PySem.W.findIn K (.ref D) "__getattr__") (some none) && (decide (PySem.W.subIn K (.ref D) (.type "BaseException") = some true) && (PySem.W.hasDictIn K D &&
  (He.eqO (PySem.W.findIn K (.ref D) "__class__") (some (some (.builtin "object.__class__"))) && (He.eqO (PySem.W.specialIn K (.builtin "object.__class__") "__get__") (some (some (.builtin "getset_descriptor.__get__"))) && (decide (PySem.W.takesIn K (.builtin "object.__class__") = some true) && decide (PySem.W.mroIn K D (.type "object") = some true)))))))
theorem excCB_ok {K : PySem.W.Frag} {D : Addr} (h : excCB K D = true) : ExcC K D := by
  unfold excCB at h
  simp only [Bool.and_eq_true, decide_eq_true_eq] at h
  obtain ⟨h1, h2, h3, h4, h5, h6, h7, h8⟩ := h
  exact ⟨He.eqO_ok h1, He.eqO_ok h2, h3, h4, He.eqO_ok h5, He.eqO_ok h6, h7, h8⟩
def oneB (K : PySem.W.Frag) (y : Str) (o b : Bool) (c : Str) : Bool := excCB K (He.ga K c) && (decide (PySem.W.kitOne K (.ref (He.ga K c)) (clsV K y o) = some b) && (!o || decide (PySem.W.exmOne K (.ref (He.ga K c)) (.ref (He.ga K y)) = some b)))
def clB (K : PySem.W.Frag) (ex : ExT) : Bool := (ex.exs.all fun c => (He.Fa.glo c).ok K && (He.Fa.exc c).ok K) && ex.cls.all fun p => (if p.2.1 = true then (He.Fa.glo p.1).ok K else (He.Fa.free p.1).ok K) && ((p.2.2.1.all fun c => oneB K p.1 p.2.1 true c) && p.2.2.2.all fun c => oneB K p.1 p.2.1 false c)
theorem oneB_ok {K : PySem.W.Frag} {y c : Str} {o b : Bool} (h : oneB K y o b c = true) : ExcC K (He.ga K c) ∧ PySem.W.kitOne K (.ref (He.ga K c)) (clsV K y o) = some b ∧ (o = true -> PySem.W.exmOne K (.ref (He.ga K c)) (.ref (He.ga K y)) = some b) := by
  unfold oneB at h
  simp only [Bool.and_eq_true, Bool.or_eq_true, decide_eq_true_eq] at h
  obtain ⟨h1, h2, h3⟩ := h
  refine ⟨excCB_ok h1, h2, fun z => ?_⟩
  subst z
  rcases h3 with h3 | h3
  · cases h3
  · exact h3
theorem lookup_mem {β : Type} {l : List (Str × β)} {y : Str} {b : β} (h : l.lookup y = some b) : (y, b) ∈ l := by
  induction l with
  | nil => cases h
  | cons p r ih =>
    obtain ⟨x, e⟩ := p
    rw [List.lookup_cons] at h
    by_cases q : y = x
    · subst q; simp at h; subst h; exact List.mem_cons_self ..
    · have q2 : (y == x) = false := by simpa using q
      rw [q2] at h
      exact List.mem_cons_of_mem _ (ih h)
theorem clB_ok {K : PySem.W.Frag} {h : Heap} {mg : Str -> Option Value} {ex : ExT} (X : K.In h) (G : h.Ns mainGlobals mg) (c : clB K ex = true) : ClsOk K mg ex := by
  unfold clB at c
  rw [Bool.and_eq_true, List.all_eq_true, List.all_eq_true] at c
  obtain ⟨c1, c2⟩ := c
  have at_ : ∀ y o yes no, ex.cls.lookup y = some (o, yes, no) -> (if o = true then (He.Fa.glo y).ok K else (He.Fa.free y).ok K) = true ∧ (∀ z, yes.contains z = true -> oneB K y o true z = true) ∧ ∀ z, no.contains z = true -> oneB K y o false z = true := fun y o yes no hl => by
    have z := c2 _ (lookup_mem hl)
    simp only [Bool.and_eq_true, List.all_eq_true] at z
    obtain ⟨z1, z2, z3⟩ := z
    exact ⟨z1, fun w hw => z2 w (by simpa using hw), fun w hw => z3 w (by simpa using hw)⟩
  refine ⟨fun x hx => ?_, fun y yes no hl => ?_, fun y yes no hl => ?_, fun y o yes no x hl hx => oneB_ok ((at_ y o yes no hl).2.1 x hx), fun y o yes no x hl hx => oneB_ok ((at_ y o yes no hl).2.2 x hx)⟩
  · have z := c1 x (by simpa using hx)
    rw [Bool.and_eq_true] at z
    obtain ⟨e1, e2, e3, e4⟩ := He.exc_ok z.2
    exact ⟨He.glo_ok X G z.1, e1, e2, e3, e4⟩
  · have z := (at_ y true yes no hl).1
    rw [if_pos rfl] at z
    exact He.glo_ok X G z
  · have z := (at_ y false yes no hl).1
    rw [if_neg Bool.false_ne_true] at z
    exact He.free_ok X G z
/-! ### the Hook -/
abbrev AlE : Type := He.AlD × Bool
def exE (cs : List (Str × D)) (xt : ExT) (K : PySem.W.Frag) : Bool := (cs.all fun p => conB K p) && clB K xt
def obsE (n : Nat) (fa : List He.Fa) (fn : List He.DefD) (cs : List (Str × D)) (xt : ExT) (g : Addr -> Option Obj) : AlE := (He.obsDG n fa fn g, exE cs xt (He.frG g (He.asD g n)))
def hookE (n : Nat) (fa : List He.Fa) (fn : List He.DefD) (cs : List (Str × D)) (xt : ExT) : PySem.W.Hook where
  α := AlE
  obs := fun s => obsE n fa fn cs xt s.heap.get?
  val := fun _ => (He.valD fn, true)
  says := fun _ h => ∃ K : PySem.W.Frag, K.In h ∧ He.SaysD fa fn K ∧ exE cs xt K = true
  of := fun _ _ e => ⟨_, He.frG_in, congrArg (fun z : AlE => z.1) e, congrArg (fun z : AlE => z.2) e⟩
  keeps := fun _ _ _ ⟨K, hK, c⟩ k => ⟨K, PySem.W.Frag.In.keeps hK k, c⟩
theorem obsE_eq {n : Nat} {fa : List He.Fa} {fn : List He.DefD} {cs : List (Str × D)} {xt : ExT} {g : Addr -> Option Obj} {s : Shared} (h : ∀ a, g a = s.heap.get? a) : obsE n fa fn cs xt g = (hookE n fa fn cs xt).obs s := by
  have e : g = s.heap.get? := funext h
  rw [e] <;> rfl
theorem says_facts {fa : List He.Fa} {fn : List He.DefD} {K : PySem.W.Frag} (c : He.SaysD fa fn K) {f : He.Fa} (h : f ∈ fa) : f.ok K = true := by
  obtain ⟨i, hi, e⟩ := List.mem_iff_getElem.mp h
  exact c.fact i (f := f) (by rw [List.getElem?_eq_getElem hi, e])
theorem says_defs {fa : List He.Fa} {fn : List He.DefD} {K : PySem.W.Frag} (c : He.SaysD fa fn K) {d : He.DefD} (h : d ∈ fn) : ∃ fd, FunD K d.name d.qual d.params d.body d.scope (d.dvs K) (d.kws K) (He.fAd K d.at_) fd := by
  obtain ⟨i, hi, e⟩ := List.mem_iff_getElem.mp h
  exact c.def_ i (d := d) (by rw [List.getElem?_eq_getElem hi, e])
/-! ### the table of a text -/
structure Ent where
  f : Str
  st : Stmt
  io : List Nat
  d : CDef
def AllP {α : Type} (p : α -> Prop) : List α -> Prop
  | [] => True
  | a :: r => p a ∧ AllP p r
theorem AllP.mem {α : Type} {p : α -> Prop} : ∀ {l : List α} {a : α}, AllP p l -> a ∈ l -> p a
  | b :: r, a, h, m => by
    rcases List.mem_cons.mp m with e | m
    · rw [e]; exact h.1
    · exact AllP.mem h.2 m
def fnsOf (es : List Ent) : List (Str × List Nat) := es.map fun e => (e.f, e.io)
def tabOf : List Ent -> Str -> Option CDef
  | [], _ => none
  | e :: r, x => if x = e.f then some e.d else tabOf r x
def glOf (cs : List (Str × D)) (x : Str) : Option D := cs.lookup x
def fdOf (e : Ent) : He.DefD := ⟨(e.f, none), e.f, e.f, defArgs e.st, defBody e.st, defScope e.st, [], []⟩
def faOf (es : List Ent) : List He.Fa := (es.map fun e => .glo e.f) ++ allB.map .free
structure EntOk (es : List Ent) (cs : List (Str × D)) (xt : ExT) (e : Ent) : Prop where
  sc : fnScopeB e.d.N e.d.ps (defScope e.st) = true
  body : ∃ n, compSs ⟨e.d.N, defScope e.st, defScope e.st, fnsOf es, cs.map (·.1), xt⟩ n (defBody e.st) = some e.d.body
  binds : ∀ (kV doc pm : Value) (an : Option Addr) (cdv ct : Value) (us : List Value), us.length = e.d.ps.length -> bindArgs (PySem.W.fnOf e.f e.f (defArgs e.st) (defBody e.st) (defScope e.st) .none kV doc pm an cdv ct) ⟨us, []⟩ = pure (e.d.ps.zip us)
theorem fns_mem : ∀ {es : List Ent} {f : Str} {io : List Nat}, (fnsOf es).lookup f = some io -> ∃ e ∈ es, e.f = f ∧ tabOf es f = some e.d
  | [], _, _, h => by cases h
  | e :: r, f, io, h => by
    have h : ((e.f, e.io) :: fnsOf r).lookup f = some io := h
    rw [List.lookup_cons] at h
    unfold tabOf
    by_cases q : f = e.f
    · exact ⟨e, List.mem_cons_self .., q.symm, by rw [if_pos q]⟩
    · have q2 : (f == e.f) = false := by simpa using q
      rw [q2] at h
      obtain ⟨e', h1, h2, h3⟩ := fns_mem (es := r) h
      exact ⟨e', List.mem_cons_of_mem _ h1, h2, by rw [if_neg q]; exact h3⟩
theorem lookup_of_mem {cs : List (Str × D)} {y : Str} (h : (cs.map (·.1)).contains y = true) : ∃ d, cs.lookup y = some d := by
  induction cs with
  | nil => cases h
  | cons p r ih =>
    obtain ⟨x, d⟩ := p
    rw [List.lookup_cons]
    by_cases q : y = x
    · subst q; exact ⟨d, by simp⟩
    · have q2 : (y == x) = false := by simpa using q
      rw [q2]
      refine ih ?_
      rw [List.map_cons, List.contains_cons, q2, Bool.false_or] at h
      exact h
theorem mem_of_lookup' {cs : List (Str × D)} {y : Str} {d : D} (h : cs.lookup y = some d) : (y, d) ∈ cs := by
  induction cs with
  | nil => cases h
  | cons p r ih =>
    obtain ⟨x, e⟩ := p
    rw [List.lookup_cons] at h
    by_cases q : y = x
    · subst q; simp at h; subst h; exact List.mem_cons_self ..
    · have q2 : (y == x) = false := by simpa using q
      rw [q2] at h
      exact List.mem_cons_of_mem _ (ih h)
section
variable {es : List Ent} {cs : List (Str × D)} {xt : ExT} {K : PySem.W.Frag} {h : Heap} {mg : Str -> Option Value}
theorem def_at (A : AllP (EntOk es cs xt) es) (X : K.In h) (G : h.Ns mainGlobals mg) (c : He.SaysD (faOf es) (es.map fdOf) K) {e : Ent} (he : e ∈ es) (ht : tabOf es e.f = some e.d) : ∃ fd, DefAt K mg (tabOf es) (fnsOf es) (cs.map (·.1)) xt e.f (He.ga K e.f) fd e.d ∧ ∀ (s : Shared) (us : List Value), us.length = e.d.ps.length -> BindsTo s fd ⟨us, []⟩ (e.d.ps.zip us) := by
  obtain ⟨fd, F⟩ := says_defs c (List.mem_map.mpr ⟨e, he, rfl⟩)
  have F : FunD K e.f e.f (defArgs e.st) (defBody e.st) (defScope e.st) [] [] (He.ga K e.f) fd := F
  obtain ⟨h1, ⟨n, h2⟩, h3⟩ := A.mem he
  have Fn : Fun K e.f e.f e.st (He.ga K e.f) fd := by
    obtain ⟨oc, od, dV, kV, doc, pm, an, cdv, ct, osl, e1, e2, e3, e4, e5⟩ := F.ex
    rcases e4 with ⟨_, rfl⟩ | ⟨z, _⟩
    · exact ⟨⟨oc, od, kV, doc, pm, an, cdv, ct, osl, e1, e2, e3⟩, F.kp⟩
    · exact absurd rfl z
  exact ⟨fd, ⟨⟨e.f, e.st, n, Fn, h1, h2⟩, ht, He.glo_ok X G (says_facts c (List.mem_append_left _ (List.mem_map.mpr ⟨e, he, rfl⟩))), F.bindsN h3⟩, fun s us hl => F.bindsA h3 s us hl⟩
theorem text_of (A : AllP (EntOk es cs xt) es) (X : K.In h) (G : h.Ns mainGlobals mg) (c : He.SaysD (faOf es) (es.map fdOf) K) (c2 : exE cs xt K = true) : Text K mg (tabOf es) (glOf cs) (fnsOf es) (cs.map (·.1)) xt where
  defs := fun f io hf => by
    obtain ⟨e, he, rfl, ht⟩ := fns_mem hf
    obtain ⟨fd, D0, _⟩ := def_at A X G c he ht
    exact ⟨_, fd, e.d, D0⟩
  gls := fun y hy => by
    obtain ⟨d, hd⟩ := lookup_of_mem hy
    refine ⟨fun z => ?_, fun dt hdt => ?_⟩
    · have z : cs.lookup y = none := z
      rw [hd] at z; cases z
    · have hdt : cs.lookup y = some dt := hdt
      exact conB_ok X G (List.all_eq_true.mp (Bool.and_eq_true_iff.mp c2).1 _ (mem_of_lookup' hdt))
  blt := fun x hx => He.free_ok X G (says_facts c (List.mem_append_right _ (List.mem_map.mpr ⟨x, hx, rfl⟩)))
  cl := clB_ok X G (Bool.and_eq_true_iff.mp c2).2
end
/-! ### the law's end -/
theorem law_walk {l : PySem.W.OpenLaw} {n k m : Nat} {q : Program} {loose : List Str} {d : DefRec} {es : List Ent} {cs : List (Str × D)} {xt : ExT} {N0 : Nat} {e : Ent} {x : Str} {XP : (Str → Option Value) → Heap → Prop}
    (hn : l.most = some n) (hn2 : n ≤ sizeLine) (hdf : d.params.defaults = []) (hr : Room (2 * k) callerA) (A : AllP (EntOk es cs xt) es) (he : e ∈ es) (ht : tabOf es e.f = some e.d) (hps : e.d.ps = [x]) (hname : d.name = e.f)
    (law : ∀ ns : List Int, ns.length ≤ n -> (∀ z ∈ ns, Builtin.Int.intBits z ≤ 1048576) -> ∃ outs, callD (tabOf es) (glOf cs) m k e.f [.pure (.list (ns.map .int))] = .ret (.pure (.bool true)) outs) :
    PySem.W.WalkO q loose XP (hookE N0 (faOf es) (es.map fdOf) cs xt).says l.row.toRowW d [] (fun f vs => PySem.call f vs) := by
  refine LamX.walk_ofTsE (CX := fun w => L2.CX l.prog w) (k := 2 * k) (x := x) hn hn2 hdf hr (fun w mg fa h Y G hmg => ?_) fun w H s ev s' z => ?_
  · obtain ⟨K, KX, c, c2⟩ := Y
    rw [hname] at hmg
    have T := text_of A KX G c c2
    obtain ⟨fd, D0, hb⟩ := def_at A KX G c he ht
    have ea := D0.mg.symm.trans hmg
    cases ea
    refine ⟨K, KX, fd, [], spD K (callD (tabOf es) (glOf cs) m k) e.f, fun p hp => (by cases hp), fun p hp => (by cases hp), fun p hp => (by cases hp), fun s u => ?_, fun H a ns h1 h2 _ hS => ?_, fun base hB hG _ => ?_⟩
    · have z := hb s [u] (by rw [hps]; rfl)
      rw [hps] at z
      exact z
    · obtain ⟨outs, hl⟩ := law ns h1 h2
      refine ⟨H, [.pure (.list (ns.map .int))], Same.refl _, .pure (.lst hS (DatL.ofInts ns)) .nil, fun i j b d1 d2 _ _ h4 => ?_, ?_⟩
      · cases i with
        | zero => simp at h4
        | succ i => simp at h4
      · rw [hl]
        intro F' H' v _ hv
        have hv : Dat K F' v (.bool true) := hv
        cases hv; rfl
    · have z := def_ok (P := l.prog) (w := w) (base := base) (m := m) T k D0
      rw [hps] at z
      exact z
  · obtain ⟨_, _, _, _, _, _, _, _, _, _, _, _, z⟩ := z
    exact z
end DE

/-! DE21: loops over data; what every law of the table has. -/
namespace DE
open PySem PySem.Spec PyProof.Rows L2
theorem bind_ok {α β : Type} (a : α) (δ : DEnv) (f : α -> DEnv -> Out β) : Out.bind (.ok a δ) f = f a δ := rfl
theorem bind_ex {α β : Type} (e : Exn) (δ : DEnv) (f : α -> DEnv -> Out β) : Out.bind (.ex e δ) f = .ex e δ := rfl
theorem bind_no {α β : Type} (f : α -> DEnv -> Out β) : Out.bind .no f = .no := rfl
theorem lcLoop_map {one : D -> DEnv -> Out (Option D)} {f : D -> D} {δ : DEnv} : ∀ (ds acc : List D), (∀ d ∈ ds, one d δ = .ok (some (f d)) δ) -> acc.length + ds.length ≤ sizeLine -> lcLoop one ds acc δ = .ok (acc ++ ds.map f) δ
  | [], acc, _, _ => by simp [lcLoop]
  | d :: ds, acc, h, hl => by
    rw [List.length_cons] at hl
    simp only [lcLoop]
    rw [h d (List.mem_cons_self ..)]
    simp only
    rw [if_pos (by omega), lcLoop_map ds (acc ++ [f d]) (fun e he => h e (List.mem_cons_of_mem _ he)) (by rw [List.length_append, List.length_singleton]; omega)]
    simp
theorem lcLoop_sel {one : D -> DEnv -> Out (Option D)} {f : D -> D} {g : D -> Bool} {δ : DEnv} : ∀ (ds acc : List D), (∀ d ∈ ds, one d δ = .ok (if g d = true then some (f d) else none) δ) -> acc.length + ds.length ≤ sizeLine -> lcLoop one ds acc δ = .ok (acc ++ (ds.filter g).map f) δ
  | [], acc, _, _ => by simp [lcLoop]
  | d :: ds, acc, h, hl => by
    rw [List.length_cons] at hl
    simp only [lcLoop]
    rw [h d (List.mem_cons_self ..)]
    by_cases hg : g d = true
    · rw [if_pos hg]
      simp only
      rw [if_pos (by omega), lcLoop_sel ds (acc ++ [f d]) (fun e he => h e (List.mem_cons_of_mem _ he)) (by rw [List.length_append, List.length_singleton]; omega)]
      simp [List.filter_cons, hg]
    · rw [if_neg hg]
      simp only
      rw [lcLoop_sel ds acc (fun e he => h e (List.mem_cons_of_mem _ he)) (by omega)]
      simp [List.filter_cons, hg]
theorem lcLoop_mapL {α : Type} {one : D -> DEnv -> Out (Option D)} {g f : α -> D} {δ : DEnv} : ∀ (xs : List α) (acc : List D), (∀ x ∈ xs, one (g x) δ = .ok (some (f x)) δ) -> acc.length + xs.length ≤ sizeLine -> lcLoop one (xs.map g) acc δ = .ok (acc ++ xs.map f) δ
  | [], acc, _, _ => by simp [lcLoop]
  | d :: ds, acc, h, hl => by
    rw [List.length_cons] at hl
    simp only [List.map_cons, lcLoop]
    rw [h d (List.mem_cons_self ..)]
    simp only
    rw [if_pos (by omega), lcLoop_mapL ds (acc ++ [f d]) (fun e he => h e (List.mem_cons_of_mem _ he)) (by rw [List.length_append, List.length_singleton]; omega)]
    simp
theorem lcLoop_selL {α : Type} {one : D -> DEnv -> Out (Option D)} {g f : α -> D} {p : α -> Bool} {δ : DEnv} : ∀ (xs : List α) (acc : List D), (∀ x ∈ xs, one (g x) δ = .ok (if p x = true then some (f x) else none) δ) -> acc.length + xs.length ≤ sizeLine -> lcLoop one (xs.map g) acc δ = .ok (acc ++ (xs.filter p).map f) δ
  | [], acc, _, _ => by simp [lcLoop]
  | d :: ds, acc, h, hl => by
    rw [List.length_cons] at hl
    simp only [List.map_cons, lcLoop]
    rw [h d (List.mem_cons_self ..)]
    by_cases hg : p d = true
    · rw [if_pos hg]
      simp only
      rw [if_pos (by omega), lcLoop_selL ds (acc ++ [f d]) (fun e he => h e (List.mem_cons_of_mem _ he)) (by rw [List.length_append, List.length_singleton]; omega)]
      simp [List.filter_cons, hg]
    · rw [if_neg hg]
      simp only
      rw [lcLoop_selL ds acc (fun e he => h e (List.mem_cons_of_mem _ he)) (by omega)]
      simp [List.filter_cons, hg]
theorem boolsOf_map {α : Type} (p : α -> Bool) : ∀ xs : List α, boolsOf (xs.map fun x => .bool (p x)) = some (xs.map p)
  | [] => rfl
  | x :: xs => by simp only [List.map_cons, boolsOf, boolsOf_map p xs]; rfl
theorem all_map {α : Type} (p : α -> Bool) (xs : List α) : (xs.map p).all id = xs.all p := by
  rw [List.all_map]; rfl
theorem any_map {α : Type} (p : α -> Bool) (xs : List α) : (xs.map p).any id = xs.any p := by
  rw [List.any_map]; rfl
theorem lc_eval {α : Type} {Γ : Calls} {gl : Str -> Option D} {elt : CE} {tg : CT} {it : CI} {cond : CO} {own : List Nat} {δ δ1 δ2 : DEnv} {xs : List α} {g f : α -> D} (h1 : evalI Γ gl it δ = .ok (xs.map g) δ1) (h2 : (own.all (plainAt δ1) && tg.slots.all (own.contains ·)) = true)
    (h3 : ∀ x ∈ xs, (match asgD tg (g x) (wipeE δ1 own) with
          | some δ2 => (evalC Γ gl cond δ2).bind fun b δ3 => if b = true then (evalE Γ gl elt δ3).bind fun r δ4 => (esc r δ4).bind fun y δ5 => Out.ok (some y) (wipeE δ5 own) else .ok none (wipeE δ3 own)
          | none => .no) = .ok (some (f x)) (wipeE δ1 own)) (h4 : xs.length ≤ sizeLine) (h5 : rstE δ1 (wipeE δ1 own) own = δ2) : evalE Γ gl (.lc elt tg it cond own) δ = .ok (.own (.list (xs.map f))) δ2 := by
  unfold evalE
  rw [h1, bind_ok, if_pos h2]
  generalize hone : lcLoop _ _ _ _ = L
  have z := lcLoop_mapL (one := fun d δ => match asgD tg d δ with
          | some δ2 => (evalC Γ gl cond δ2).bind fun b δ3 => if b = true then (evalE Γ gl elt δ3).bind fun r δ4 => (esc r δ4).bind fun y δ5 => Out.ok (some y) (wipeE δ5 own) else .ok none (wipeE δ3 own)
          | none => .no) (g := g) (f := f) (δ := wipeE δ1 own) xs [] h3 (by simpa using h4)
  have e := hone.symm.trans z
  subst e
  rw [List.nil_append]
  simp only [h5]
theorem lc_sel {α : Type} {Γ : Calls} {gl : Str -> Option D} {elt : CE} {tg : CT} {it : CI} {cond : CO} {own : List Nat} {δ δ1 δ2 : DEnv} {xs : List α} {g f : α -> D} {p : α -> Bool} (h1 : evalI Γ gl it δ = .ok (xs.map g) δ1) (h2 : (own.all (plainAt δ1) && tg.slots.all (own.contains ·)) = true)
    (h3 : ∀ x ∈ xs, (match asgD tg (g x) (wipeE δ1 own) with
          | some δ2 => (evalC Γ gl cond δ2).bind fun b δ3 => if b = true then (evalE Γ gl elt δ3).bind fun r δ4 => (esc r δ4).bind fun y δ5 => Out.ok (some y) (wipeE δ5 own) else .ok none (wipeE δ3 own)
          | none => .no) = .ok (if p x = true then some (f x) else none) (wipeE δ1 own)) (h4 : xs.length ≤ sizeLine) (h5 : rstE δ1 (wipeE δ1 own) own = δ2) : evalE Γ gl (.lc elt tg it cond own) δ = .ok (.own (.list ((xs.filter p).map f))) δ2 := by
  unfold evalE
  rw [h1, bind_ok, if_pos h2]
  generalize hone : lcLoop _ _ _ _ = L
  have z := lcLoop_selL (one := fun d δ => match asgD tg d δ with
          | some δ2 => (evalC Γ gl cond δ2).bind fun b δ3 => if b = true then (evalE Γ gl elt δ3).bind fun r δ4 => (esc r δ4).bind fun y δ5 => Out.ok (some y) (wipeE δ5 own) else .ok none (wipeE δ3 own)
          | none => .no) (g := g) (f := f) (p := p) (δ := wipeE δ1 own) xs [] h3 (by simpa using h4)
  have e := hone.symm.trans z
  subst e
  rw [List.nil_append]
  simp only [h5]
/-! ### strings -/
abbrev chD (c : Nat) : D := .str ⟨#[c]⟩
theorem cut_from (z : Str) (k : Nat) : cutS z (some (k : Int)) none = ⟨(z.cps.toList.drop k).toArray⟩ := by
  unfold cutS
  congr 1
  congr 1
  rw [HT.sIx_nat, HT.sIx_none]
  have e : z.length = z.cps.toList.length := by simp [Str.length]
  rw [e]
  generalize z.cps.toList = l
  by_cases h : k ≤ l.length
  · rw [Nat.min_eq_left h]
    exact List.take_of_length_le (by rw [List.length_drop]; exact Nat.le_refl _)
  · rw [Nat.min_eq_right (by omega), List.drop_of_length_le (Nat.le_refl _), List.drop_of_length_le (by omega), List.take_nil]
theorem cut_to (z : Str) (k : Nat) : cutS z none (some (k : Int)) = ⟨(z.cps.toList.take k).toArray⟩ := by
  unfold cutS
  congr 1
  congr 1
  rw [HT.sIx_nat, HT.sIx_none]
  have e : z.length = z.cps.toList.length := by simp [Str.length]
  rw [e, List.drop_zero, Nat.sub_zero]
  generalize z.cps.toList = l
  by_cases h : k ≤ l.length
  · rw [Nat.min_eq_left h]
  · rw [Nat.min_eq_right (by omega), List.take_of_length_le (Nat.le_refl _), List.take_of_length_le (by omega)]
theorem cut_1 (z : Str) : cutS z (some 1) none = ⟨(z.cps.toList.drop 1).toArray⟩ := cut_from z 1
theorem isOne_ch (c : Nat) : isOne ⟨#[c]⟩ = some c := rfl
theorem str_len (z : Str) : z.length = z.cps.toList.length := by simp [Str.length]
theorem eqOk_str (s : Str) : eqOk (.str s) = true := by rfl
theorem eqv_str (a b : Str) : PyData.eqv (.str a) (.str b) = (a == b) := by simp only [PyData.eqv]
theorem forLoop_ind {body : D -> DEnv -> Out Fl} (P : Nat -> DEnv -> Prop) : ∀ (ds : List D) (i : Nat) (δ : DEnv), P i δ -> (∀ j d δ, ds[j]? = some d -> P (i + j) δ -> ∃ δ', (body d δ = .ok .nx δ' ∨ body d δ = .ok .ct δ') ∧ P (i + j + 1) δ') -> ∃ δ', forLoop body ds δ = .ok .nx δ' ∧ P (i + ds.length) δ'
  | [], i, δ, h, _ => ⟨δ, by simp [forLoop], h⟩
  | d :: ds, i, δ, h, st => by
    obtain ⟨δ1, e, h1⟩ := st 0 d δ rfl h
    obtain ⟨δ2, e2, h2⟩ := forLoop_ind P ds (i + 1) δ1 h1 fun j d' δ' hj hp => by
      have z := st (j + 1) d' δ' (by simpa using hj)
      rw [show i + (j + 1) = i + 1 + j by omega] at z
      exact z hp
    refine ⟨δ2, ?_, by rw [List.length_cons]; rw [show i + (ds.length + 1) = i + 1 + ds.length by omega]; exact h2⟩
    simp only [forLoop]
    rcases e with e | e <;> rw [e] <;> exact e2
/-! ### the state of a draw -/
def StOk (a b : Int) : Prop := 0 ≤ a ∧ 0 ≤ b ∧ b < 2147483648
abbrev stD (a b : Int) : D := .list [.int a, .int b]
def bPick : CSs := (.cons (.ifs (.cmp .Gt (.idx (.slot 0) (.con (.int 0))) (.con (.int 0))) (.cons (.asg 2 (.bin .Mod (.idx (.slot 0) (.con (.int 0))) (.slot 1))) (.cons (.seti 0 (.con (.int 0)) (.bin .FloorDiv (.idx (.slot 0) (.con (.int 0))) (.slot 1))) (.cons (.ret (.slot 2)) .nil))) .nil) (.cons (.seti 0 (.con (.int 1)) (.bin .Add (.bin .Mod (.bin .Mult (.idx (.slot 0) (.con (.int 1))) (.con (.int 48271))) (.con (.int 2147483647))) (.con (.int 1)))) (.cons (.asg 3 (.bin .Mod (.bin .Mult (.bin .Mod (.bin .Mult (.idx (.slot 0) (.con (.int 1))) (.idx (.slot 0) (.con (.int 1)))) (.con (.int 2147483629))) (.con (.int 69621))) (.con (.int 2147483587)))) (.cons (.ret (.bin .Mod (.bin .FloorDiv (.slot 3) (.con (.int 8))) (.slot 1))) .nil))))
def dPick : CDef := ⟨["state", "many"], ["state", "many", "found", "mixed"], bPick⟩
def bState : CSs := (.cons (.asg 1 (.blt .abs (.cons (.slot 0) .nil))) (.cons (.ifs (.cmp .GtE (.slot 1) (.bin .Pow (.con (.int 10)) (.con (.int 18)))) (.cons (.ret (.lst (.cons (.slot 1) (.cons (.bin .Add (.bin .Mod (.slot 1) (.con (.int 1000000007))) (.con (.int 1))) .nil)))) .nil) .nil) (.cons (.ret (.lst (.cons (.con (.int 0)) (.cons (.bin .Add (.bin .Mod (.bin .Add (.bin .Mult (.bin .Mod (.slot 1) (.con (.int 1000000007))) (.con (.int 48271))) (.con (.int 977))) (.con (.int 2147483647))) (.con (.int 1))) .nil)))) .nil)))
def dState : CDef := ⟨["cell"], ["cell", "size"], bState⟩
theorem mulOk_r {i j : Int} (h : -(2 ^ 64) < j ∧ j < 2 ^ 64) : mulOk i j = true := by
  unfold mulOk
  have z : sizeB 18446744073709551616 j = true := sizeB_iff.mpr ⟨by have := h.1; omega, by have := h.2; omega⟩
  rw [z, Bool.or_true]
theorem mulOk_c (x : Int) : mulOk x 48271 = true := mulOk_r (by omega)
theorem at0 {a b : Int} : atI [PyData.int a, PyData.int b] 0 = some (.int a) := rfl
theorem at1 {a b : Int} : atI [PyData.int a, PyData.int b] 1 = some (.int b) := rfl
section
variable {tab : Str -> Option CDef} {gl : Str -> Option D} {m : Nat}
theorem callD_at {tab : Str -> Option CDef} {gl : Str -> Option D} {m k : Nat} {f : Str} {d : CDef} (h : tab f = some d) (args : List Cell) : callD tab gl m (k + 1) f args = runBody (callD tab gl m k) gl m d args := by simp only [callD, h]
theorem atI_in {α : Type} {xs : List α} {i : Int} (h1 : 0 ≤ i) (h2 : i < xs.length) : ∃ d, atI xs i = some d ∧ d ∈ xs := by
  obtain ⟨j, rfl⟩ := Int.eq_ofNat_of_zero_le h1
  have hj : j < xs.length := by omega
  exact ⟨xs[j], atI_nat (List.getElem?_eq_getElem hj), List.getElem_mem hj⟩
theorem size2 : (2 ≤ sizeLine) = True := by simp [sizeLine]
theorem state_ok (ht : tab "_law_state" = some dState) (k : Nat) (c : Int) : ∃ a b, callD tab gl m (k + 1) "_law_state" [.pure (.int c)] = .ret (.own (stD a b)) [.pure (.int c)] ∧ StOk a b := by
  by_cases hc : (1000000000000000000 : Int) ≤ if c < 0 then -c else c
  · refine ⟨_, _, by rw [callD_at ht]; simp [dState, bState, hc, runBody, execSs, execS, evalE, evalT, evalEs, evalRs, evalAs, evalI, evalO, evalC, bind_ok, bind_ex, bind_no, settle, rd, Cell.rd, bltD, lenD, ofO, tk, asgC, two, rdTo, cmpD, ordD, binD, truthD, esc, retV, outsOf, setC, hasV, setD, Cell.isOwn, backTo1, idxD, callA, arCells, arCell, refsOf, putBack, size2]; exact ⟨rfl, rfl⟩, ?_⟩
    unfold StOk; omega
  · refine ⟨_, _, by rw [callD_at ht]; simp [dState, bState, hc, mulOk_c, runBody, execSs, execS, evalE, evalT, evalEs, evalRs, evalAs, evalI, evalO, evalC, bind_ok, bind_ex, bind_no, settle, rd, Cell.rd, bltD, lenD, ofO, tk, asgC, two, rdTo, cmpD, ordD, binD, truthD, esc, retV, outsOf, setC, hasV, setD, Cell.isOwn, backTo1, idxD, callA, arCells, arCell, refsOf, putBack, size2]; exact ⟨rfl, rfl⟩, ?_⟩
    unfold StOk; omega
theorem ix0 : ixN 2 0 = some 0 := rfl
theorem ix1 : ixN 2 1 = some 1 := rfl
theorem pick_ok (ht : tab "_law_pick" = some dPick) (k : Nat) (a b n : Int) (hs : StOk a b) (hn : 0 < n) (hn2 : n < 2 ^ 200) : ∃ r a' b', callD tab gl m (k + 1) "_law_pick" [.inp (stD a b), .pure (.int n)] = .ret (.pure (.int r)) [.inp (stD a' b'), .pure (.int n)] ∧ StOk a' b' ∧ 0 ≤ r ∧ r < n := by
  obtain ⟨h1, h2, h3⟩ := hs
  have hd : divOk n = true := divOk_small hn hn2
  by_cases hc : 0 < a
  · refine ⟨_, _, _, by rw [callD_at ht]; simp [dPick, bPick, hc, at0, at1, ix0, ix1, hn, hd, runBody, execSs, execS, evalE, evalT, evalEs, evalRs, evalAs, evalI, evalO, evalC, bind_ok, bind_ex, bind_no, settle, rd, Cell.rd, bltD, lenD, ofO, tk, asgC, two, rdTo, cmpD, ordD, binD, truthD, esc, retV, outsOf, setC, hasV, setD, Cell.isOwn, backTo1, idxD, callA, arCells, arCell, refsOf, putBack, size2]; first | exact ⟨rfl, rfl, rfl⟩ | exact ⟨rfl, rfl⟩ | rfl, ⟨?_, h2, h3⟩, Int.emod_nonneg _ (by omega), Int.emod_lt_of_pos _ hn⟩
    exact Int.ediv_nonneg h1 (by omega)
  · have hm : mulOk (b * 48271 % 2147483647 + 1) (b * 48271 % 2147483647 + 1) = true := mulOk_r (by omega)
    have h8 : divOk 8 = true := divOk_small (by omega) (by omega)
    have m1 : ∀ x, mulOk x 48271 = true := fun x => mulOk_r (by omega)
    have m2 : ∀ x, mulOk x 69621 = true := fun x => mulOk_r (by omega)
    refine ⟨_, _, _, by rw [callD_at ht]; simp [dPick, bPick, hc, at0, at1, ix0, ix1, hn, hd, hm, h8, m1, m2, runBody, execSs, execS, evalE, evalT, evalEs, evalRs, evalAs, evalI, evalO, evalC, bind_ok, bind_ex, bind_no, settle, rd, Cell.rd, bltD, lenD, ofO, tk, asgC, two, rdTo, cmpD, ordD, binD, truthD, esc, retV, outsOf, setC, hasV, setD, Cell.isOwn, backTo1, idxD, callA, arCells, arCell, refsOf, putBack, size2]; first | exact ⟨rfl, rfl, rfl⟩ | exact ⟨rfl, rfl⟩ | rfl, ⟨h1, by omega, by omega⟩, Int.emod_nonneg _ (by omega), Int.emod_lt_of_pos _ hn⟩
end
end DE

/-! DE22: texts that name things: the program's look at them, the laws' own. -/
namespace DE.Lib
open PySem PySem.Spec PyProof.Rows L2
def c1_is_wordlike : CE := (.lc (.orr (.cmp .In (.slot 2) (.glb "SMALL")) (.cmp .In (.slot 2) (.glb "FIGURES"))) (.nm 2) (.val (.slc (.slot 0) (.som (.con (.int 1))) .non)) .non [2])
def b_is_wordlike : CSs := (.cons (.ifs (.orr (.nt (.isi (.slot 0) .str)) (.orr (.cmp .Lt (.blt .len (.cons (.slot 0) .nil)) (.con (.int 1))) (.orr (.cmp .Gt (.blt .len (.cons (.slot 0) .nil)) (.glb "MOST_SIGNS")) (.cmp .NotIn (.idx (.slot 0) (.con (.int 0))) (.slot 1))))) (.cons (.ret (.con (.bool false))) .nil) .nil) (.cons (.ret (.blt .all (.cons c1_is_wordlike .nil))) .nil))
def d_is_wordlike : CDef := ⟨["thing", "first"], ["thing", "first", "sign"], b_is_wordlike⟩
def b_is_name : CSs := (.cons (.ret (.an (.call "is_wordlike" (.val (.slot 0) (.val (.glb "SMALL") .nil))) (.cmp .NotIn (.slot 0) (.glb "KEPT")))) .nil)
def d_is_name : CDef := ⟨["thing"], ["thing"], b_is_name⟩
def b_is_variable : CSs := (.cons (.ret (.call "is_wordlike" (.val (.slot 0) (.val (.glb "GREAT") .nil)))) .nil)
def d_is_variable : CDef := ⟨["thing"], ["thing"], b_is_variable⟩
def b_is_value : CSs := (.cons (.ifs (.isi (.slot 0) .str) (.cons (.ret (.call "is_name" (.val (.slot 0) .nil))) .nil) .nil) (.cons (.ret (.cmp2 .Lt .Lt (.neg (.glb "MOST_NUMBER")) (.slot 0) (.glb "MOST_NUMBER"))) .nil))
def d_is_value : CDef := ⟨["thing"], ["thing"], b_is_value⟩
def b__law_named : CSs := (.cons (.ifs (.cmp .In (.slot 0) (.lst (.cons (.con (.str "not")) (.cons (.con (.str "count")) (.cons (.con (.str "sum")) (.cons (.con (.str "least")) (.cons (.con (.str "most")) .nil))))))) (.cons (.ret (.con (.bool false))) .nil) .nil) (.cons (.ret (.call "_law_wordy" (.val (.slot 0) (.val (.con (.str "abcdefghijklmnopqrstuvwxyz")) .nil)))) .nil))
def d__law_named : CDef := ⟨["text"], ["text"], b__law_named⟩
def c1__law_wordy : CE := (.lc (.cmp .In (.slot 3) (.slot 2)) (.nm 3) (.val (.slc (.slot 0) (.som (.con (.int 1))) .non)) .non [3])
def b__law_wordy : CSs := (.cons (.asg 2 (.con (.str "abcdefghijklmnopqrstuvwxyz0123456789"))) (.cons (.ifs (.orr (.cmp .Eq (.slot 0) (.con (.str ""))) (.orr (.cmp .Gt (.blt .len (.cons (.slot 0) .nil)) (.con (.int 12))) (.cmp .NotIn (.idx (.slot 0) (.con (.int 0))) (.slot 1)))) (.cons (.ret (.con (.bool false))) .nil) .nil) (.cons (.ret (.blt .all (.cons c1__law_wordy .nil))) .nil)))
def d__law_wordy : CDef := ⟨["text", "first"], ["text", "first", "signs", "sign"], b__law_wordy⟩
def b__law_truth : CSs := (.cons (.ret (.an (.isi (.slot 0) .bool) (.cmp .Eq (.slot 0) (.slot 1)))) .nil)
def d__law_truth : CDef := ⟨["found", "due"], ["found", "due"], b__law_truth⟩
section
variable {m : Nat} {tab : Str -> Option CDef} {gl : Str -> Option D}
abbrev sSM : Str := "abcdefghijklmnopqrstuvwxyz"
abbrev sFI : Str := "0123456789"
abbrev sGR : Str := "ABCDEFGHIJKLMNOPQRSTUVWXYZ"
abbrev sSG : Str := "abcdefghijklmnopqrstuvwxyz0123456789"
def sgA (c : Nat) : Bool := hasCh c sSM || hasCh c sFI
def wlL (first : Str) : List Nat -> Bool
  | [] => false
  | c :: r => decide (r.length < 12) && (hasCh c first && r.all sgA)
structure WlH (tab : Str -> Option CDef) (gl : Str -> Option D) : Prop where
  wl : tab "is_wordlike" = some d_is_wordlike
  sm : gl "SMALL" = some (.str sSM)
  fi : gl "FIGURES" = some (.str sFI)
  ms : gl "MOST_SIGNS" = some (.int 12)
theorem small {n : Nat} (h : n ≤ 1000) : n ≤ sizeLine := Nat.le_trans h (by decide)
theorem sg_eq (c : Nat) : hasCh c sSG = sgA c := by
  have e : sSG.cps.toList = sSM.cps.toList ++ sFI.cps.toList := by decide +kernel
  unfold sgA hasCh
  rw [e]
  simp only [List.mem_append, Bool.decide_or]
theorem cut_cons (c : Nat) (r : List Nat) : cutS ⟨(c :: r).toArray⟩ (some 1) none = ⟨r.toArray⟩ := by rw [cut_1]; rfl
theorem ats (c : Nat) (r : List Nat) : atI (c :: r) 0 = some c := atI_nat (xs := c :: r) (j := 0) rfl
theorem wordlike_str (H : WlH tab gl) (k : Nat) (l : List Nat) (first : Str) (hl : l.length ≤ 1000) : callD tab gl m (k + 1) "is_wordlike" [.pure (.str ⟨l.toArray⟩), .pure (.str first)] = .ret (.pure (.bool (wlL first l))) [.pure (.str ⟨l.toArray⟩), .pure (.str first)] := by
  have hs := small hl
  cases l with
  | nil => rw [callD_at H.wl]; simp [d_is_wordlike, b_is_wordlike, wlL, runBody, execSs, execS, evalE, evalT, evalEs, evalRs, evalAs, evalI, evalO, evalC, bind_ok, bind_ex, bind_no, settle, rd, Cell.rd, bltD, lenD, ofO, tk, asgC, two, rdTo, cmpD, ordD, binD, truthD, esc, retV, outsOf, setC, hasV, setD, Cell.isOwn, backTo1, idxD, callA, arCells, arCell, refsOf, putBack, size2, isiO, isX, isiD, Str.length]
  | cons c r =>
    have hz : r.length + 1 ≤ sizeLine := by simpa using hs
    have hcomp : evalE (callD tab gl m k) gl c1_is_wordlike [.pure (.str ⟨(c :: r).toArray⟩), .pure (.str first), .emp] = .ok (.own (.list (r.map fun c => .bool (sgA c)))) [.pure (.str ⟨(c :: r).toArray⟩), .pure (.str first), .emp] := by
      refine lc_eval (xs := r) (g := chD) (δ1 := [.pure (.str ⟨(c :: r).toArray⟩), .pure (.str first), .emp]) ?_ (by rfl) (fun x hx => ?_) (by omega) (by rfl)
      · simp [runBody, execSs, execS, evalE, evalT, evalEs, evalRs, evalAs, evalI, evalO, evalC, bind_ok, bind_ex, bind_no, settle, rd, Cell.rd, bltD, lenD, ofO, tk, asgC, two, rdTo, cmpD, ordD, binD, truthD, esc, retV, outsOf, setC, hasV, setD, Cell.isOwn, backTo1, idxD, callA, arCells, arCell, refsOf, putBack, size2, isiO, isX, slcD, Str.length, hz, cut_cons, itemsD]
      · cases h1 : hasCh x sSM <;> simp [runBody, execSs, execS, evalE, evalT, evalEs, evalRs, evalAs, evalI, evalO, evalC, bind_ok, bind_ex, bind_no, settle, rd, Cell.rd, bltD, lenD, ofO, tk, asgC, two, rdTo, cmpD, ordD, binD, truthD, esc, retV, outsOf, setC, hasV, setD, Cell.isOwn, backTo1, idxD, callA, arCells, arCell, refsOf, putBack, size2, isiO, isX, asgD, wipeE, H.sm, H.fi, inD, isOne_ch, h1, sgA]
    by_cases h1 : 12 < r.length + 1
    · have h2 : ¬ r.length < 12 := by omega
      have h3 : ¬ (r.length : Int) + 1 < 1 := by omega
      have h5 : (12 : Int) < (r.length : Int) + 1 := by omega
      rw [callD_at H.wl]; simp [h3, h5, d_is_wordlike, b_is_wordlike, wlL, runBody, execSs, execS, evalE, evalT, evalEs, evalRs, evalAs, evalI, evalO, evalC, bind_ok, bind_ex, bind_no, settle, rd, Cell.rd, bltD, lenD, ofO, tk, asgC, two, rdTo, cmpD, ordD, binD, truthD, esc, retV, outsOf, setC, hasV, setD, Cell.isOwn, backTo1, idxD, callA, arCells, arCell, refsOf, putBack, size2, isiO, isX, isiD, Str.length, H.ms, hz, h1, h2]
    · have h2 : r.length < 12 := by omega
      have h3 : ¬ (r.length : Int) + 1 < 1 := by omega
      have h5 : ¬ (12 : Int) < (r.length : Int) + 1 := by omega
      rw [callD_at H.wl]; cases h4 : hasCh c first <;> simp [h5, d_is_wordlike, b_is_wordlike, wlL, runBody, execSs, execS, evalE, evalT, evalEs, evalRs, evalAs, evalI, evalO, evalC, bind_ok, bind_ex, bind_no, settle, rd, Cell.rd, bltD, lenD, ofO, tk, asgC, two, rdTo, cmpD, ordD, binD, truthD, esc, retV, outsOf, setC, hasV, setD, Cell.isOwn, backTo1, idxD, callA, arCells, arCell, refsOf, putBack, size2, isiO, isX, isiD, Str.length, H.ms, hz, h1, h2, h3, h4, ats, inD, isOne_ch, hcomp, boolsOf_map, all_map]
theorem wordlike_int (H : WlH tab gl) (k : Nat) (n : Int) (first : Str) : callD tab gl m (k + 1) "is_wordlike" [.pure (.int n), .pure (.str first)] = .ret (.pure (.bool false)) [.pure (.int n), .pure (.str first)] := by
  rw [callD_at H.wl]; simp [d_is_wordlike, b_is_wordlike, runBody, execSs, execS, evalE, evalT, evalEs, evalRs, evalAs, evalI, evalO, evalC, bind_ok, bind_ex, bind_no, settle, rd, Cell.rd, bltD, lenD, ofO, tk, asgC, two, rdTo, cmpD, ordD, binD, truthD, esc, retV, outsOf, setC, hasV, setD, Cell.isOwn, backTo1, idxD, callA, arCells, arCell, refsOf, putBack, size2, isiO, isX, isiD]
theorem eqE (l : List Nat) : (({ cps := l.toArray } : Str) == Str.ofString "") = l.isEmpty := by
  have e : (Str.ofString "") = ⟨[].toArray⟩ := by decide +kernel
  rw [e]
  cases l with
  | nil => rfl
  | cons c r =>
    have : ({ cps := (c :: r).toArray } : Str) ≠ ⟨[].toArray⟩ := fun h => by simp at h
    simpa using this
theorem wordy_str (hw : tab "_law_wordy" = some d__law_wordy) (k : Nat) (l : List Nat) (first : Str) (hl : l.length ≤ 1000) : callD tab gl m (k + 1) "_law_wordy" [.pure (.str ⟨l.toArray⟩), .pure (.str first)] = .ret (.pure (.bool (wlL first l))) [.pure (.str ⟨l.toArray⟩), .pure (.str first)] := by
  have hs := small hl
  cases l with
  | nil => rw [callD_at hw]; simp [d__law_wordy, b__law_wordy, wlL, runBody, execSs, execS, evalE, evalT, evalEs, evalRs, evalAs, evalI, evalO, evalC, bind_ok, bind_ex, bind_no, settle, rd, Cell.rd, bltD, lenD, ofO, tk, asgC, two, rdTo, cmpD, ordD, binD, truthD, esc, retV, outsOf, setC, hasV, setD, Cell.isOwn, backTo1, idxD, callA, arCells, arCell, refsOf, putBack, size2, isiO, isX, eqD, eqOk_str, eqv_str, eqE]
  | cons c r =>
    have hz : r.length + 1 ≤ sizeLine := by simpa using hs
    have hcomp : evalE (callD tab gl m k) gl c1__law_wordy [.pure (.str ⟨(c :: r).toArray⟩), .pure (.str first), .pure (.str sSG), .emp] = .ok (.own (.list (r.map fun c => .bool (sgA c)))) [.pure (.str ⟨(c :: r).toArray⟩), .pure (.str first), .pure (.str sSG), .emp] := by
      refine lc_eval (xs := r) (g := chD) (δ1 := [.pure (.str ⟨(c :: r).toArray⟩), .pure (.str first), .pure (.str sSG), .emp]) ?_ (by rfl) (fun x hx => ?_) (by omega) (by rfl)
      · simp [runBody, execSs, execS, evalE, evalT, evalEs, evalRs, evalAs, evalI, evalO, evalC, bind_ok, bind_ex, bind_no, settle, rd, Cell.rd, bltD, lenD, ofO, tk, asgC, two, rdTo, cmpD, ordD, binD, truthD, esc, retV, outsOf, setC, hasV, setD, Cell.isOwn, backTo1, idxD, callA, arCells, arCell, refsOf, putBack, size2, isiO, isX, slcD, Str.length, hz, cut_cons, itemsD]
      · simp [runBody, execSs, execS, evalE, evalT, evalEs, evalRs, evalAs, evalI, evalO, evalC, bind_ok, bind_ex, bind_no, settle, rd, Cell.rd, bltD, lenD, ofO, tk, asgC, two, rdTo, cmpD, ordD, binD, truthD, esc, retV, outsOf, setC, hasV, setD, Cell.isOwn, backTo1, idxD, callA, arCells, arCell, refsOf, putBack, size2, isiO, isX, asgD, wipeE, inD, isOne_ch, sg_eq]
    by_cases h1 : 12 < r.length + 1
    · have h2 : ¬ r.length < 12 := by omega
      have h5 : (12 : Int) < (r.length : Int) + 1 := by omega
      rw [callD_at hw]; simp [h5, d__law_wordy, b__law_wordy, wlL, runBody, execSs, execS, evalE, evalT, evalEs, evalRs, evalAs, evalI, evalO, evalC, bind_ok, bind_ex, bind_no, settle, rd, Cell.rd, bltD, lenD, ofO, tk, asgC, two, rdTo, cmpD, ordD, binD, truthD, esc, retV, outsOf, setC, hasV, setD, Cell.isOwn, backTo1, idxD, callA, arCells, arCell, refsOf, putBack, size2, isiO, isX, Str.length, hz, h1, h2, eqD, eqOk_str, eqv_str, eqE]
    · have h2 : r.length < 12 := by omega
      have h5 : ¬ (12 : Int) < (r.length : Int) + 1 := by omega
      rw [callD_at hw]; cases h4 : hasCh c first <;> simp [h5, d__law_wordy, b__law_wordy, wlL, runBody, execSs, execS, evalE, evalT, evalEs, evalRs, evalAs, evalI, evalO, evalC, bind_ok, bind_ex, bind_no, settle, rd, Cell.rd, bltD, lenD, ofO, tk, asgC, two, rdTo, cmpD, ordD, binD, truthD, esc, retV, outsOf, setC, hasV, setD, Cell.isOwn, backTo1, idxD, callA, arCells, arCell, refsOf, putBack, size2, isiO, isX, Str.length, hz, h1, h2, h4, ats, inD, isOne_ch, hcomp, boolsOf_map, all_map, eqD, eqOk_str, eqv_str, eqE]
abbrev kept : List D := [.str "not", .str "count", .str "sum", .str "least", .str "most"]
theorem keptOk : eqOk (.tuple kept) = true ∧ eqOk (.list kept) = true := by decide +kernel
def nameB (l : List Nat) : Bool := if inL (.str ⟨l.toArray⟩) kept then false else wlL sSM l
theorem is_name_str (H : WlH tab gl) (hn : tab "is_name" = some d_is_name) (hk : gl "KEPT" = some (.tuple kept)) (k : Nat) (l : List Nat) (hl : l.length ≤ 1000) : callD tab gl m (k + 2) "is_name" [.pure (.str ⟨l.toArray⟩)] = .ret (.pure (.bool (nameB l))) [.pure (.str ⟨l.toArray⟩)] := by
  have h := wordlike_str (m := m) H k l sSM hl
  rw [callD_at hn]
  cases h1 : wlL sSM l <;> cases h2 : inL (.str ⟨l.toArray⟩) kept <;> simp [d_is_name, b_is_name, runBody, execSs, execS, evalE, evalT, evalEs, evalRs, evalAs, evalI, evalO, evalC, bind_ok, bind_ex, bind_no, settle, rd, Cell.rd, bltD, lenD, ofO, tk, asgC, two, rdTo, cmpD, ordD, binD, truthD, esc, retV, outsOf, setC, hasV, setD, Cell.isOwn, backTo1, idxD, callA, arCells, arCell, refsOf, putBack, size2, isiO, isX, H.sm, hk, h, h1, h2, inD, eqOk_str, keptOk, nameB]
theorem is_variable_str (H : WlH tab gl) (hv : tab "is_variable" = some d_is_variable) (hg : gl "GREAT" = some (.str sGR)) (k : Nat) (l : List Nat) (hl : l.length ≤ 1000) : callD tab gl m (k + 2) "is_variable" [.pure (.str ⟨l.toArray⟩)] = .ret (.pure (.bool (wlL sGR l))) [.pure (.str ⟨l.toArray⟩)] := by
  have h := wordlike_str (m := m) H k l sGR hl
  rw [callD_at hv]
  simp [d_is_variable, b_is_variable, runBody, execSs, execS, evalE, evalT, evalEs, evalRs, evalAs, evalI, evalO, evalC, bind_ok, bind_ex, bind_no, settle, rd, Cell.rd, bltD, lenD, ofO, tk, asgC, two, rdTo, cmpD, ordD, binD, truthD, esc, retV, outsOf, setC, hasV, setD, Cell.isOwn, backTo1, idxD, callA, arCells, arCell, refsOf, putBack, size2, isiO, isX, hg, h]
theorem is_value_str (H : WlH tab gl) (hn : tab "is_name" = some d_is_name) (hk : gl "KEPT" = some (.tuple kept)) (hu : tab "is_value" = some d_is_value) (k : Nat) (l : List Nat) (hl : l.length ≤ 1000) : callD tab gl m (k + 3) "is_value" [.pure (.str ⟨l.toArray⟩)] = .ret (.pure (.bool (nameB l))) [.pure (.str ⟨l.toArray⟩)] := by
  have h := is_name_str (m := m) H hn hk k l hl
  rw [callD_at hu]
  simp [d_is_value, b_is_value, runBody, execSs, execS, evalE, evalT, evalEs, evalRs, evalAs, evalI, evalO, evalC, bind_ok, bind_ex, bind_no, settle, rd, Cell.rd, bltD, lenD, ofO, tk, asgC, two, rdTo, cmpD, ordD, binD, truthD, esc, retV, outsOf, setC, hasV, setD, Cell.isOwn, backTo1, idxD, callA, arCells, arCell, refsOf, putBack, size2, isiO, isX, isiD, h]
theorem named_str (hw : tab "_law_wordy" = some d__law_wordy) (hd : tab "_law_named" = some d__law_named) (k : Nat) (l : List Nat) (hl : l.length ≤ 1000) : callD tab gl m (k + 2) "_law_named" [.pure (.str ⟨l.toArray⟩)] = .ret (.pure (.bool (nameB l))) [.pure (.str ⟨l.toArray⟩)] := by
  have h := wordy_str (m := m) (gl := gl) hw k l sSM hl
  have z5 : 5 ≤ sizeLine := by decide
  rw [callD_at hd]
  cases h2 : inL (.str ⟨l.toArray⟩) kept <;> simp [d__law_named, b__law_named, runBody, execSs, execS, evalE, evalT, evalEs, evalRs, evalAs, evalI, evalO, evalC, bind_ok, bind_ex, bind_no, settle, rd, Cell.rd, bltD, lenD, ofO, tk, asgC, two, rdTo, cmpD, ordD, binD, truthD, esc, retV, outsOf, setC, hasV, setD, Cell.isOwn, backTo1, idxD, callA, arCells, arCell, refsOf, putBack, size2, isiO, isX, h, h2, inD, eqOk_str, keptOk, nameB, z5]
theorem truth_ok (ht : tab "_law_truth" = some d__law_truth) (k : Nat) (b : Bool) : callD tab gl m (k + 1) "_law_truth" [.pure (.bool b), .pure (.bool b)] = .ret (.pure (.bool true)) [.pure (.bool b), .pure (.bool b)] := by
  rw [callD_at ht]
  cases b <;> simp [d__law_truth, b__law_truth, runBody, execSs, execS, evalE, evalT, evalEs, evalRs, evalAs, evalI, evalO, evalC, bind_ok, bind_ex, bind_no, settle, rd, Cell.rd, bltD, lenD, ofO, tk, asgC, two, rdTo, cmpD, ordD, binD, truthD, esc, retV, outsOf, setC, hasV, setD, Cell.isOwn, backTo1, idxD, callA, arCells, arCell, refsOf, putBack, size2, isiO, isX, isiD, eqD, eqOk, PyData.plain, PyData.depth, PyData.eqv]
theorem whileN_ind {test : DEnv -> Out Bool} {body : DEnv -> Out Fl} (I : Nat -> DEnv -> Prop) (Rf : Out Fl -> Prop)
    (step : ∀ n δ, I n δ -> (∃ δ', test δ = .ok false δ' ∧ Rf (.ok .nx δ')) ∨ (∃ δ1, test δ = .ok true δ1 ∧ ((∃ δ2 n', (body δ1 = .ok .nx δ2 ∨ body δ1 = .ok .ct δ2) ∧ n' < n ∧ I n' δ2) ∨ (∃ δ2, body δ1 = .ok .bk δ2 ∧ Rf (.ok .nx δ2)) ∨ ∃ c δ2, body δ1 = .ok (.rt c) δ2 ∧ Rf (.ok (.rt c) δ2)))) :
    ∀ (n m : Nat) (δ : DEnv), n < m -> I n δ -> Rf (whileN test body m δ)
  | n, 0, δ, h, _ => absurd h (by omega)
  | n, m + 1, δ, h, hi => by
    unfold whileN
    rcases step n δ hi with ⟨δ', e, r⟩ | ⟨δ1, e, ⟨δ2, n', e2, hn, hi2⟩ | ⟨δ2, e2, r⟩ | ⟨c, δ2, e2, r⟩⟩
    · rw [e]; exact r
    · rw [e]
      have z := whileN_ind I Rf step n' m δ2 (by omega) hi2
      rcases e2 with e2 | e2 <;> (simp only [e2]; exact z)
    · rw [e]; simp only [e2]; exact r
    · rw [e]; simp only [e2]; exact r
def Sh (n : Nat) (d : D) : Prop := ∃ z : Str, d = .str z ∧ z.cps.size ≤ n
theorem app_size (x y : Str) : (x ++ y).cps.size = x.cps.size + y.cps.size := by
  show (x.cps ++ y.cps).size = _
  simp
theorem rep_size (x : Str) (n : Int) : (repS x n).cps.size = n.toNat * x.cps.size := by
  unfold repS
  simp
end
end DE.Lib

/-! DE23: values in order. -/
namespace DE.Lib
open PySem PySem.Spec PyProof.Rows L2
def b_order_of : CSs := (.cons (.ifs (.isi (.slot 0) .str) (.cons (.ret (.tup (.cons (.con (.int 1)) (.cons (.con (.int 0)) (.cons (.slot 0) .nil))))) .nil) .nil) (.cons (.ret (.tup (.cons (.con (.int 0)) (.cons (.slot 0) (.cons (.con (.str "")) .nil))))) .nil))
def d_order_of : CDef := ⟨["value"], ["value"], b_order_of⟩
def b_sorted_values : CSs := (.cons (.ret (.srt (.slot 0) "order_of")) .nil)
def d_sorted_values : CDef := ⟨["values"], ["values"], b_sorted_values⟩
def b__law_key : CSs := (.cons (.ifs (.isi (.slot 0) .str) (.cons (.ret (.tup (.cons (.con (.int 1)) (.cons (.con (.int 0)) (.cons (.slot 0) .nil))))) .nil) .nil) (.cons (.ret (.tup (.cons (.con (.int 0)) (.cons (.slot 0) (.cons (.con (.str "")) .nil))))) .nil))
def d__law_key : CDef := ⟨["value"], ["value"], b__law_key⟩
section
variable {m : Nat} {tab : Str -> Option CDef} {gl : Str -> Option D}
theorem sl : sizeLine = 16777216 := by decide
/-- numbers and texts -/
inductive Vv : D -> Prop
  | int (n : Int) : Vv (.int n)
  | str (z : Str) : z.cps.size ≤ 10 -> Vv (.str z)
abbrev e0 : Str := ""
def keyV : D -> D
  | .str z => .tuple [.int 1, .int 0, .str z]
  | d => .tuple [.int 0, d, .str e0]
theorem order_ok (ht : tab "order_of" = some d_order_of) (k : Nat) (d : D) (h : Vv d) : callD tab gl m (k + 1) "order_of" [.pure d] = .ret (.pure (keyV d)) [.pure d] := by
  rw [callD_at ht]
  cases h with
  | int n => simp [d_order_of, b_order_of, runBody, execSs, execS, evalE, evalT, evalEs, evalRs, evalAs, evalI, evalO, evalC, bind_ok, bind_ex, bind_no, settle, rd, Cell.rd, bltD, lenD, ofO, tk, asgC, two, rdTo, cmpD, ordD, binD, truthD, esc, retV, outsOf, setC, hasV, setD, Cell.isOwn, backTo1, idxD, callA, arCells, arCell, refsOf, putBack, size2, isiO, isX, isiD, keyV, sl]
  | str z hz => simp [d_order_of, b_order_of, runBody, execSs, execS, evalE, evalT, evalEs, evalRs, evalAs, evalI, evalO, evalC, bind_ok, bind_ex, bind_no, settle, rd, Cell.rd, bltD, lenD, ofO, tk, asgC, two, rdTo, cmpD, ordD, binD, truthD, esc, retV, outsOf, setC, hasV, setD, Cell.isOwn, backTo1, idxD, callA, arCells, arCell, refsOf, putBack, size2, isiO, isX, isiD, keyV, sl]
theorem key_ok (ht : tab "_law_key" = some d__law_key) (k : Nat) (d : D) (h : Vv d) : callD tab gl m (k + 1) "_law_key" [.pure d] = .ret (.pure (keyV d)) [.pure d] := by
  rw [callD_at ht]
  cases h with
  | int n => simp [d__law_key, b__law_key, runBody, execSs, execS, evalE, evalT, evalEs, evalRs, evalAs, evalI, evalO, evalC, bind_ok, bind_ex, bind_no, settle, rd, Cell.rd, bltD, lenD, ofO, tk, asgC, two, rdTo, cmpD, ordD, binD, truthD, esc, retV, outsOf, setC, hasV, setD, Cell.isOwn, backTo1, idxD, callA, arCells, arCell, refsOf, putBack, size2, isiO, isX, isiD, keyV, sl]
  | str z hz => simp [d__law_key, b__law_key, runBody, execSs, execS, evalE, evalT, evalEs, evalRs, evalAs, evalI, evalO, evalC, bind_ok, bind_ex, bind_no, settle, rd, Cell.rd, bltD, lenD, ofO, tk, asgC, two, rdTo, cmpD, ordD, binD, truthD, esc, retV, outsOf, setC, hasV, setD, Cell.isOwn, backTo1, idxD, callA, arCells, arCell, refsOf, putBack, size2, isiO, isX, isiD, keyV, sl]
theorem keyV_cases (d : D) (h : Vv d) : ∃ a b z, keyV d = .tuple [.int a, .int b, .str z] := by
  cases h with
  | int n => exact ⟨_, _, _, rfl⟩
  | str z _ => exact ⟨_, _, _, rfl⟩
theorem ordOk_key (d e : D) (hd : Vv d) (he : Vv e) : ordOk (keyV d) (keyV e) = true := by
  obtain ⟨a, b, z, h1⟩ := keyV_cases d hd
  obtain ⟨a', b', z', h2⟩ := keyV_cases e he
  rw [h1, h2]
  simp [ordOk, PyData.plain, PyData.plainAll, PySem.W.alike, PySem.W.alikeAll, PyData.depth, PyData.depthAll]
theorem eqOk_key (d : D) (hd : Vv d) : eqOk (keyV d) = true := by
  obtain ⟨a, b, z, h1⟩ := keyV_cases d hd
  rw [h1]
  simp [eqOk, PyData.plain, PyData.plainAll, PyData.depth, PyData.depthAll]
theorem okKeys_map (ds : List D) (h : ∀ d ∈ ds, Vv d) : okKeys (ds.map keyV) = true := by
  have pl : PyData.plainAll (ds.map keyV) = true := by
    induction ds with
    | nil => rfl
    | cons d r ih =>
      have h1 := eqOk_of (eqOk_key d (h d (List.mem_cons_self ..)))
      rw [List.map_cons]
      simp only [PyData.plainAll, h1.1, ih fun e he => h e (List.mem_cons_of_mem _ he), Bool.and_self]
  unfold okKeys
  rw [pl]
  simp only [Bool.true_and, Bool.and_eq_true, Bool.or_eq_true, List.all_eq_true, decide_eq_true_eq]
  refine ⟨⟨fun a ha b hb => ?_, .inl fun a ha => ?_⟩, fun a ha => ?_⟩
  · obtain ⟨d, hd, rfl⟩ := List.mem_map.mp ha
    obtain ⟨e, he, rfl⟩ := List.mem_map.mp hb
    exact (ordOk_of (ordOk_key d e (h d hd) (h e he))).2.2.1
  · obtain ⟨d, hd, rfl⟩ := List.mem_map.mp ha
    obtain ⟨x, y, z, e⟩ := keyV_cases d (h d hd)
    rw [e]
  · obtain ⟨d, hd, rfl⟩ := List.mem_map.mp ha
    exact (eqOk_of (eqOk_key d (h d hd))).2
theorem keysD_map {Γ : Calls} {f : Str} : ∀ (ds : List D), (∀ d ∈ ds, ∃ o, Γ f [.pure d] = .ret (.pure (keyV d)) o) -> keysD Γ f ds = some (ds.map keyV)
  | [], _ => rfl
  | d :: r, h => by
    obtain ⟨o, e⟩ := h d (List.mem_cons_self ..)
    simp only [keysD, e, keysD_map r fun x hx => h x (List.mem_cons_of_mem _ hx)]
    rfl
/-- the list in order -/
def srt (ds : List D) : List D := srtK ds (ds.map keyV)
theorem srt_perm (ds : List D) : (srt ds).Perm ds := by
  unfold srt srtK
  have h1 : (((ds.zip (ds.map keyV)).mergeSort (PySem.W.dataLe false (·.2))).map (·.1)).Perm ((ds.zip (ds.map keyV)).map (·.1)) := (List.mergeSort_perm _ _).map _
  have h2 : (ds.zip (ds.map keyV)).map (·.1) = ds := by
    rw [List.map_fst_zip]; rw [List.length_map]; exact Nat.le_refl _
  rw [h2] at h1
  exact h1
theorem srt_mem (ds : List D) (h : ∀ d ∈ ds, Vv d) : ∀ d ∈ srt ds, Vv d := fun d hd => h d ((srt_perm ds).mem_iff.mp hd)
theorem sorted_ok (ht : tab "sorted_values" = some d_sorted_values) (ho : tab "order_of" = some d_order_of) (k : Nat) (ds : List D) (h : ∀ d ∈ ds, Vv d) : callD tab gl m (k + 2) "sorted_values" [.pure (.list ds)] = .ret (.own (.list (srt ds))) [.pure (.list ds)] := by
  have h1 : keysD (callD tab gl m (k + 1)) "order_of" ds = some (ds.map keyV) := keysD_map ds fun d hd => ⟨_, order_ok ho k d (h d hd)⟩
  have h2 := okKeys_map ds h
  rw [callD_at ht]
  simp [d_sorted_values, b_sorted_values, runBody, execSs, execS, evalE, evalT, evalEs, evalRs, evalAs, evalI, evalO, evalC, bind_ok, bind_ex, bind_no, settle, rd, Cell.rd, bltD, lenD, ofO, tk, asgC, two, rdTo, cmpD, ordD, binD, truthD, esc, retV, outsOf, setC, hasV, setD, Cell.isOwn, backTo1, idxD, callA, arCells, arCell, refsOf, putBack, size2, isiO, isX, srtD, h1, h2, srt]
/-! ### the same -/
theorem vv_bool (d : D) (h : Vv d) : isiD .bool d = false := by cases h <;> rfl
theorem vv_eqOk (d : D) (h : Vv d) : eqOk d = true := by cases h <;> rfl
theorem vv_eqv (d : D) (h : Vv d) : PyData.eqv d d = true := by
  cases h with
  | int n => simp [PyData.eqv]
  | str z _ => simp [PyData.eqv]
end
end DE.Lib

namespace DE
open PySem PySem.Spec PyProof.Rows L2
namespace K03
def top (i : Nat) : Stmt := PySem.Challenge.pw_stayledger_k03_atoms_looked_at.main.body.getD i (.Pass ⟨0, 0, 0, 0⟩)
def c1_is_wordlike : CE := (.lc (.orr (.cmp .In (.slot 2) (.glb "SMALL")) (.cmp .In (.slot 2) (.glb "FIGURES"))) (.nm 2) (.val (.slc (.slot 0) (.som (.con (.int 1))) .non)) .non [2])
def b_is_wordlike : CSs := (.cons (.ifs (.orr (.nt (.isi (.slot 0) .str)) (.orr (.cmp .Lt (.blt .len (.cons (.slot 0) .nil)) (.con (.int 1))) (.orr (.cmp .Gt (.blt .len (.cons (.slot 0) .nil)) (.glb "MOST_SIGNS")) (.cmp .NotIn (.idx (.slot 0) (.con (.int 0))) (.slot 1))))) (.cons (.ret (.con (.bool false))) .nil) .nil) (.cons (.ret (.blt .all (.cons c1_is_wordlike .nil))) .nil))
def d_is_wordlike : CDef := ⟨["thing", "first"], ["thing", "first", "sign"], b_is_wordlike⟩
def e_is_wordlike : Ent := ⟨"is_wordlike", top 26, [], d_is_wordlike⟩
def b_is_name : CSs := (.cons (.ret (.an (.call "is_wordlike" (.val (.slot 0) (.val (.glb "SMALL") .nil))) (.cmp .NotIn (.slot 0) (.glb "KEPT")))) .nil)
def d_is_name : CDef := ⟨["thing"], ["thing"], b_is_name⟩
def e_is_name : Ent := ⟨"is_name", top 27, [], d_is_name⟩
def b_is_variable : CSs := (.cons (.ret (.call "is_wordlike" (.val (.slot 0) (.val (.glb "GREAT") .nil)))) .nil)
def d_is_variable : CDef := ⟨["thing"], ["thing"], b_is_variable⟩
def e_is_variable : Ent := ⟨"is_variable", top 28, [], d_is_variable⟩
def b_is_value : CSs := (.cons (.ifs (.isi (.slot 0) .str) (.cons (.ret (.call "is_name" (.val (.slot 0) .nil))) .nil) .nil) (.cons (.ret (.cmp2 .Lt .Lt (.neg (.glb "MOST_NUMBER")) (.slot 0) (.glb "MOST_NUMBER"))) .nil))
def d_is_value : CDef := ⟨["thing"], ["thing"], b_is_value⟩
def e_is_value : Ent := ⟨"is_value", top 29, [], d_is_value⟩
def b_look_at_pair : CSs := (.cons (.asgT (.tp [(.nm 1), (.nm 2)]) (.slot 0)) (.cons (.ifs (.nt (.call "is_name" (.val (.slot 1) .nil))) (.cons (.rais "BadAtom" (.con (.str "no name"))) .nil) .nil) (.cons (.ifs (.cmp .Gt (.blt .len (.cons (.slot 2) .nil)) (.glb "MOST_PLACES")) (.cons (.rais "BadAtom" (.con (.str "too many places"))) .nil) .nil) .nil)))
def d_look_at_pair : CDef := ⟨["atom"], ["atom", "name", "terms"], b_look_at_pair⟩
def e_look_at_pair : Ent := ⟨"look_at_pair", top 32, [], d_look_at_pair⟩
def w1_look_at_atom : CSs := (.cons (.ifs (.an (.nt (.call "is_value" (.val (.slot 1) .nil))) (.nt (.call "is_variable" (.val (.slot 1) .nil)))) (.cons (.rais "BadAtom" (.con (.str "no term"))) .nil) .nil) .nil)
def l2_look_at_atom : CS := (.fr (.nm 1) (.val (.idx (.slot 0) (.con (.int 1)))) w1_look_at_atom)
def b_look_at_atom : CSs := (.cons (.expr (.call "look_at_pair" (.val (.slot 0) .nil))) (.cons l2_look_at_atom .nil))
def d_look_at_atom : CDef := ⟨["atom"], ["atom", "term"], b_look_at_atom⟩
def e_look_at_atom : Ent := ⟨"look_at_atom", top 33, [], d_look_at_atom⟩
def w1_look_at_fact : CSs := (.cons (.ifs (.nt (.call "is_value" (.val (.slot 1) .nil))) (.cons (.rais "BadAtom" (.con (.str "no value"))) .nil) .nil) .nil)
def l2_look_at_fact : CS := (.fr (.nm 1) (.val (.idx (.slot 0) (.con (.int 1)))) w1_look_at_fact)
def b_look_at_fact : CSs := (.cons (.expr (.call "look_at_pair" (.val (.slot 0) .nil))) (.cons l2_look_at_fact .nil))
def d_look_at_fact : CDef := ⟨["fact"], ["fact", "term"], b_look_at_fact⟩
def e_look_at_fact : Ent := ⟨"look_at_fact", top 34, [], d_look_at_fact⟩
def b__law_cell : CSs := (.cons (.ifs (.cmp .Lt (.slot 1) (.blt .len (.cons (.slot 0) .nil))) (.cons (.ret (.idx (.slot 0) (.slot 1))) .nil) .nil) (.cons (.ret (.con (.int 0))) .nil))
def d__law_cell : CDef := ⟨["script", "k"], ["script", "k"], b__law_cell⟩
def e__law_cell : Ent := ⟨"_law_cell", top 36, [], d__law_cell⟩
def b__law_state : CSs := (.cons (.asg 1 (.blt .abs (.cons (.slot 0) .nil))) (.cons (.ifs (.cmp .GtE (.slot 1) (.bin .Pow (.con (.int 10)) (.con (.int 18)))) (.cons (.ret (.lst (.cons (.slot 1) (.cons (.bin .Add (.bin .Mod (.slot 1) (.con (.int 1000000007))) (.con (.int 1))) .nil)))) .nil) .nil) (.cons (.ret (.lst (.cons (.con (.int 0)) (.cons (.bin .Add (.bin .Mod (.bin .Add (.bin .Mult (.bin .Mod (.slot 1) (.con (.int 1000000007))) (.con (.int 48271))) (.con (.int 977))) (.con (.int 2147483647))) (.con (.int 1))) .nil)))) .nil)))
def d__law_state : CDef := ⟨["cell"], ["cell", "size"], b__law_state⟩
def e__law_state : Ent := ⟨"_law_state", top 37, [], d__law_state⟩
def b__law_pick : CSs := (.cons (.ifs (.cmp .Gt (.idx (.slot 0) (.con (.int 0))) (.con (.int 0))) (.cons (.asg 2 (.bin .Mod (.idx (.slot 0) (.con (.int 0))) (.slot 1))) (.cons (.seti 0 (.con (.int 0)) (.bin .FloorDiv (.idx (.slot 0) (.con (.int 0))) (.slot 1))) (.cons (.ret (.slot 2)) .nil))) .nil) (.cons (.seti 0 (.con (.int 1)) (.bin .Add (.bin .Mod (.bin .Mult (.idx (.slot 0) (.con (.int 1))) (.con (.int 48271))) (.con (.int 2147483647))) (.con (.int 1)))) (.cons (.asg 3 (.bin .Mod (.bin .Mult (.bin .Mod (.bin .Mult (.idx (.slot 0) (.con (.int 1))) (.idx (.slot 0) (.con (.int 1)))) (.con (.int 2147483629))) (.con (.int 69621))) (.con (.int 2147483587)))) (.cons (.ret (.bin .Mod (.bin .FloorDiv (.slot 3) (.con (.int 8))) (.slot 1))) .nil))))
def d__law_pick : CDef := ⟨["state", "many"], ["state", "many", "found", "mixed"], b__law_pick⟩
def e__law_pick : Ent := ⟨"_law_pick", top 38, [0], d__law_pick⟩
def b__law_named : CSs := (.cons (.ifs (.cmp .In (.slot 0) (.lst (.cons (.con (.str "not")) (.cons (.con (.str "count")) (.cons (.con (.str "sum")) (.cons (.con (.str "least")) (.cons (.con (.str "most")) .nil))))))) (.cons (.ret (.con (.bool false))) .nil) .nil) (.cons (.ret (.call "_law_wordy" (.val (.slot 0) (.val (.con (.str "abcdefghijklmnopqrstuvwxyz")) .nil)))) .nil))
def d__law_named : CDef := ⟨["text"], ["text"], b__law_named⟩
def e__law_named : Ent := ⟨"_law_named", top 39, [], d__law_named⟩
def c1__law_wordy : CE := (.lc (.cmp .In (.slot 3) (.slot 2)) (.nm 3) (.val (.slc (.slot 0) (.som (.con (.int 1))) .non)) .non [3])
def b__law_wordy : CSs := (.cons (.asg 2 (.con (.str "abcdefghijklmnopqrstuvwxyz0123456789"))) (.cons (.ifs (.orr (.cmp .Eq (.slot 0) (.con (.str ""))) (.orr (.cmp .Gt (.blt .len (.cons (.slot 0) .nil)) (.con (.int 12))) (.cmp .NotIn (.idx (.slot 0) (.con (.int 0))) (.slot 1)))) (.cons (.ret (.con (.bool false))) .nil) .nil) (.cons (.ret (.blt .all (.cons c1__law_wordy .nil))) .nil)))
def d__law_wordy : CDef := ⟨["text", "first"], ["text", "first", "signs", "sign"], b__law_wordy⟩
def e__law_wordy : Ent := ⟨"_law_wordy", top 40, [], d__law_wordy⟩
def b__law_kinds : CSs := (.cons (.asg 1 (.lst (.cons (.ixc (.slot 0) ["BadAtom"] []) (.cons (.ixc (.slot 0) [] ["BadAtom"]) (.cons (.ixc (.slot 0) [] ["BadAtom"]) (.cons (.ixc (.slot 0) [] ["BadAtom"]) .nil)))))) (.cons (.asg 1 (.bin .Add (.slot 1) (.lst (.cons (.ixc (.slot 0) [] ["BadAtom"]) (.cons (.ixc (.slot 0) [] ["BadAtom"]) (.cons (.ixc (.slot 0) [] ["BadAtom"]) (.cons (.ixc (.slot 0) [] ["BadAtom"]) .nil))))))) (.cons (.asg 1 (.bin .Add (.slot 1) (.lst (.cons (.ixc (.slot 0) [] ["BadAtom"]) (.cons (.ixc (.slot 0) [] ["BadAtom"]) (.cons (.ixc (.slot 0) [] ["BadAtom"]) .nil)))))) (.cons (.asg 1 (.bin .Add (.slot 1) (.lst (.cons (.ixc (.slot 0) [] ["BadAtom"]) (.cons (.ixc (.slot 0) [] ["BadAtom"]) (.cons (.ixc (.slot 0) [] ["BadAtom"]) .nil)))))) (.cons (.asg 1 (.bin .Add (.slot 1) (.lst (.cons (.ixc (.slot 0) [] ["BadAtom"]) .nil)))) (.cons (.asg 1 (.bin .Add (.slot 1) (.lst (.cons (.ixc (.slot 0) [] ["BadAtom"]) (.cons (.ixc (.slot 0) [] ["BadAtom"]) .nil))))) (.cons (.ret (.an (.cmp .Eq (.mth .count (.slot 1) (.cons (.con (.bool true)) .nil)) (.con (.int 1))) (.an (.ixc (.slot 0) ["BadAtom"] []) (.ixc (.slot 0) ["BadAtom"] [])))) .nil)))))))
def d__law_kinds : CDef := ⟨["e"], ["e", "kinds"], b__law_kinds⟩
def e__law_kinds : Ent := ⟨"_law_kinds", top 41, [], d__law_kinds⟩
def b__law_term : CSs := (.cons (.asg 1 (.call "_law_pick" (.ref 0 (.val (.con (.int 12)) .nil)))) (.cons (.ifs (.cmp .Lt (.slot 1) (.con (.int 4))) (.cons (.ret (.bin .Add (.con (.str "X")) (.idx (.lst (.cons (.con (.str "")) (.cons (.con (.str "0")) (.cons (.con (.str "1a")) (.cons (.con (.str "y")) .nil))))) (.slot 1)))) .nil) .nil) (.cons (.ifs (.cmp .Lt (.slot 1) (.con (.int 9))) (.cons (.ret (.idx (.lst (.cons (.con (.int 0)) (.cons (.neg (.con (.int 1))) (.cons (.bin .Sub (.bin .Pow (.con (.int 10)) (.con (.int 30))) (.con (.int 1))) (.cons (.con (.str "a")) (.cons (.con (.str "b0")) .nil)))))) (.bin .Sub (.slot 1) (.con (.int 4))))) .nil) .nil) (.cons (.asg 2 (.lst (.cons (.con (.str "")) (.cons (.con (.str "Aa")) (.cons (.con (.str "AA")) (.cons (.con (.str "a.b")) (.cons (.con (.str "a23456789012")) (.cons (.con (.str "a234567890123")) (.cons (.con (.str "not")) (.cons (.con (.str "most")) (.cons (.con (.str "1a")) (.cons (.con (.str "X Y")) (.cons (.con (.str "_")) .nil))))))))))))) (.cons (.expr (.mth .append (.slot 2) (.cons (.con (.str "Z234567890123")) .nil))) (.cons (.ifs (.cmp .Lt (.slot 1) (.con (.int 11))) (.cons (.ret (.idx (.slot 2) (.call "_law_pick" (.ref 0 (.val (.blt .len (.cons (.slot 2) .nil)) .nil))))) .nil) .nil) (.cons (.ret (.idx (.lst (.cons (.bin .Pow (.con (.int 10)) (.con (.int 30))) (.cons (.bin .Mult (.neg (.con (.int 1))) (.bin .Pow (.con (.int 10)) (.con (.int 30)))) (.cons (.bin .Pow (.con (.int 10)) (.con (.int 31))) .nil)))) (.call "_law_pick" (.ref 0 (.val (.con (.int 3)) .nil))))) .nil)))))))
def d__law_term : CDef := ⟨["state"], ["state", "way", "odd"], b__law_term⟩
def e__law_term : Ent := ⟨"_law_term", top 42, [0], d__law_term⟩
def w1__law_atom : CSs := (.cons (.ifs (.cmp .Eq (.slot 4) (.con (.int 0))) (.cons (.expr (.mth .append (.slot 3) (.cons (.idx (.lst (.cons (.con (.int 0)) (.cons (.con (.str "a")) (.cons (.con (.str "X")) (.cons (.con (.str "Y1")) .nil))))) (.call "_law_pick" (.ref 1 (.val (.con (.int 4)) .nil)))) .nil))) .nil) (.cons (.ifs (.cmp .Eq (.slot 4) (.con (.int 1))) (.cons (.expr (.mth .append (.slot 3) (.cons (.idx (.lst (.cons (.con (.int 0)) (.cons (.con (.str "a")) (.cons (.neg (.con (.int 7))) (.cons (.con (.str "b")) .nil))))) (.call "_law_pick" (.ref 1 (.val (.con (.int 4)) .nil)))) .nil))) .nil) (.cons (.expr (.mth .append (.slot 3) (.cons (.call "_law_term" (.ref 1 .nil)) .nil))) .nil)) .nil)) .nil)
def l2__law_atom : CS := (.fr (.nm 5) (.rng1 (.call "_law_pick" (.ref 1 (.val (.con (.int 9)) .nil)))) w1__law_atom)
def b__law_atom : CSs := (.cons (.asg 1 (.call "_law_state" (.val (.slot 0) .nil))) (.cons (.asg 2 (.idx (.lst (.cons (.con (.str "p")) (.cons (.con (.str "q1")) (.cons (.con (.str "is")) (.cons (.con (.str "")) (.cons (.con (.str "P")) (.cons (.con (.str "p_")) (.cons (.con (.str "not")) (.cons (.con (.str "sum")) (.cons (.con (.str "a23456789012")) (.cons (.con (.str "a234567890123")) .nil))))))))))) (.call "_law_pick" (.ref 1 (.val (.con (.int 10)) .nil))))) (.cons (.ifs (.cmp .Eq (.call "_law_pick" (.ref 1 (.val (.con (.int 2)) .nil))) (.con (.int 0))) (.cons (.asg 2 (.con (.str "p"))) .nil) .nil) (.cons (.asg 3 (.lst .nil)) (.cons (.asg 4 (.call "_law_pick" (.ref 1 (.val (.con (.int 3)) .nil)))) (.cons l2__law_atom (.cons (.ret (.tup (.cons (.slot 2) (.cons (.blt .tuple (.cons (.slot 3) .nil)) .nil)))) .nil)))))))
def d__law_atom : CDef := ⟨["cell"], ["cell", "state", "name", "terms", "plain", "k"], b__law_atom⟩
def e__law_atom : Ent := ⟨"_law_atom", top 43, [], d__law_atom⟩
def b__law_valued : CSs := (.cons (.ifs (.isi (.slot 0) .str) (.cons (.ret (.call "_law_named" (.val (.slot 0) .nil))) .nil) .nil) (.cons (.ret (.cmp .Lt (.blt .abs (.cons (.slot 0) .nil)) (.bin .Pow (.con (.int 10)) (.con (.int 30))))) .nil))
def d__law_valued : CDef := ⟨["term"], ["term"], b__law_valued⟩
def e__law_valued : Ent := ⟨"_law_valued", top 44, [], d__law_valued⟩
def b__law_termed : CSs := (.cons (.ifs (.isi (.slot 0) .str) (.cons (.ret (.orr (.call "_law_named" (.val (.slot 0) .nil)) (.call "_law_wordy" (.val (.slot 0) (.val (.con (.str "ABCDEFGHIJKLMNOPQRSTUVWXYZ")) .nil))))) .nil) .nil) (.cons (.ret (.cmp .Lt (.blt .abs (.cons (.slot 0) .nil)) (.bin .Pow (.con (.int 10)) (.con (.int 30))))) .nil))
def d__law_termed : CDef := ⟨["term"], ["term"], b__law_termed⟩
def e__law_termed : Ent := ⟨"_law_termed", top 45, [], d__law_termed⟩
def w1__law_word : CSs := (.cons (.ifs (.cmp .Eq (.slot 0) (.con (.int 0))) (.cons (.asg 3 (.call "look_at_atom" (.val (.slot 1) .nil))) .nil) (.cons (.asg 3 (.call "look_at_fact" (.val (.slot 1) .nil))) .nil)) .nil)
def l2__law_word : CS := (.tryx w1__law_word ["BadAtom"] [] 4 2)
def b__law_word : CSs := (.cons (.asg 2 (.con .none)) (.cons (.asg 3 (.con .none)) (.cons l2__law_word (.cons (.ifs (.cmp .Is (.slot 2) (.con .none)) (.cons (.ret (.idx (.lst (.cons (.con (.str "told")) (.cons (.con (.str "other")) .nil))) (.blt .int (.cons (.cmp .IsNot (.slot 3) (.con .none)) .nil)))) .nil) .nil) (.cons (.ret (.idx (.lst (.cons (.con (.str "other")) (.cons (.con (.str "atom")) .nil))) (.blt .int (.cons (.an (.ixc (.slot 2) ["BadAtom"] []) (.call "_law_kinds" (.val (.slot 2) .nil))) .nil)))) .nil)))))
def d__law_word : CDef := ⟨["which", "atom"], ["which", "atom", "found", "told", "e"], b__law_word⟩
def e__law_word : Ent := ⟨"_law_word", top 46, [], d__law_word⟩
def w1_law : CSs := (.cons (.expr (.mth .append (.slot 1) (.cons (.call "_law_atom" (.val (.slot 2) .nil)) .nil))) .nil)
def l2_law : CS := (.fr (.nm 2) (.val (.slot 0)) w1_law)
def c3_law : CE := (.lc (.call "_law_termed" (.val (.slot 7) .nil)) (.nm 7) (.val (.idx (.slot 3) (.con (.int 1)))) .non [7])
def c4_law : CE := (.lc (.call "_law_valued" (.val (.slot 7) .nil)) (.nm 7) (.val (.idx (.slot 3) (.con (.int 1)))) .non [7])
def w5_law : CSs := (.cons (.asg 4 (.an (.call "_law_named" (.val (.idx (.slot 3) (.con (.int 0))) .nil)) (.cmp .Lt (.blt .len (.cons (.idx (.slot 3) (.con (.int 1))) .nil)) (.con (.int 7))))) (.cons (.asg 5 (.an (.slot 4) (.blt .all (.cons c3_law .nil)))) (.cons (.asg 6 (.an (.slot 4) (.blt .all (.cons c4_law .nil)))) (.cons (.ifs (.orr (.cmp .NotEq (.call "_law_word" (.val (.con (.int 0)) (.val (.slot 3) .nil))) (.idx (.lst (.cons (.con (.str "atom")) (.cons (.con (.str "told")) .nil))) (.blt .int (.cons (.slot 5) .nil)))) (.cmp .NotEq (.call "_law_word" (.val (.con (.int 1)) (.val (.slot 3) .nil))) (.idx (.lst (.cons (.con (.str "atom")) (.cons (.con (.str "told")) .nil))) (.blt .int (.cons (.slot 6) .nil))))) (.cons (.ret (.con (.bool false))) .nil) .nil) .nil))))
def l6_law : CS := (.fr (.nm 3) (.val (.slot 1)) w5_law)
def b_law : CSs := (.cons (.asg 1 (.lst (.cons (.tup (.cons (.con (.str "p")) (.cons (.tup .nil) .nil))) (.cons (.tup (.cons (.con (.str "p")) (.cons (.tup (.cons (.con (.int 0)) (.cons (.con (.int 1)) (.cons (.con (.int 2)) (.cons (.con (.int 3)) (.cons (.con (.int 4)) (.cons (.con (.str "a")) .nil))))))) .nil))) (.cons (.tup (.cons (.con (.str "p")) (.cons (.tup (.cons (.con (.int 0)) (.cons (.con (.int 1)) (.cons (.con (.int 2)) (.cons (.con (.int 3)) (.cons (.con (.int 4)) (.cons (.con (.int 5)) (.cons (.con (.int 6)) .nil)))))))) .nil))) (.cons (.tup (.cons (.con (.str "not")) (.cons (.tup .nil) .nil))) (.cons (.tup (.cons (.con (.str "p")) (.cons (.tup (.cons (.con (.str "X")) .nil)) .nil))) .nil))))))) (.cons l2_law (.cons l6_law (.cons (.ret (.con (.bool true))) .nil))))
def d_law : CDef := ⟨["script"], ["script", "atoms", "cell", "atom", "named", "first", "second", "term"], b_law⟩
def e_law : Ent := ⟨"law", top 47, [], d_law⟩
def es : List Ent := [e_is_wordlike, e_is_name, e_is_variable, e_is_value, e_look_at_pair, e_look_at_atom, e_look_at_fact, e__law_cell, e__law_state, e__law_pick, e__law_named, e__law_wordy, e__law_kinds, e__law_term, e__law_atom, e__law_valued, e__law_termed, e__law_word, e_law]
def cs : List (Str × D) := [("SMALL", (.str "abcdefghijklmnopqrstuvwxyz")), ("GREAT", (.str "ABCDEFGHIJKLMNOPQRSTUVWXYZ")), ("FIGURES", (.str "0123456789")), ("KEPT", (.tuple [(.str "not"), (.str "count"), (.str "sum"), (.str "least"), (.str "most")])), ("MOST_SIGNS", (.int (12))), ("MOST_NUMBER", (.int (1000000000000000000000000000000))), ("MOST_PLACES", (.int (6)))]
def xt : ExT := ⟨["BadAtom"], [("LedgerError", true, ["BadAtom"], []), ("BadAtom", true, ["BadAtom"], []), ("BadRule", true, [], ["BadAtom"]), ("Unsafe", true, [], ["BadAtom"]), ("Unlike", true, [], ["BadAtom"]), ("TooMany", true, [], ["BadAtom"]), ("BadFact", true, [], ["BadAtom"]), ("BadText", true, [], ["BadAtom"]), ("NotRing", true, [], ["BadAtom"]), ("NoReason", true, [], ["BadAtom"]), ("Holds", true, [], ["BadAtom"]), ("BadChange", true, [], ["BadAtom"]), ("BadQuestion", true, [], ["BadAtom"]), ("BadPrices", true, [], ["BadAtom"]), ("NotRising", true, [], ["BadAtom"]), ("NotPlain", true, [], ["BadAtom"]), ("NoMoment", true, [], ["BadAtom"]), ("NoRule", true, [], ["BadAtom"]), ("ValueError", false, ["BadAtom"], [])]⟩
theorem ok_is_wordlike : EntOk es cs xt e_is_wordlike := ⟨by decide +kernel, ⟨200, by kernel_rfl⟩, fun _ _ _ _ _ _ us hl => match us, hl with | [_, _], _ => rfl⟩
theorem ok_is_name : EntOk es cs xt e_is_name := ⟨by decide +kernel, ⟨200, by kernel_rfl⟩, fun _ _ _ _ _ _ us hl => match us, hl with | [_], _ => rfl⟩
theorem ok_is_variable : EntOk es cs xt e_is_variable := ⟨by decide +kernel, ⟨200, by kernel_rfl⟩, fun _ _ _ _ _ _ us hl => match us, hl with | [_], _ => rfl⟩
theorem ok_is_value : EntOk es cs xt e_is_value := ⟨by decide +kernel, ⟨200, by kernel_rfl⟩, fun _ _ _ _ _ _ us hl => match us, hl with | [_], _ => rfl⟩
theorem ok_look_at_pair : EntOk es cs xt e_look_at_pair := ⟨by decide +kernel, ⟨200, by kernel_rfl⟩, fun _ _ _ _ _ _ us hl => match us, hl with | [_], _ => rfl⟩
theorem ok_look_at_atom : EntOk es cs xt e_look_at_atom := ⟨by decide +kernel, ⟨200, by kernel_rfl⟩, fun _ _ _ _ _ _ us hl => match us, hl with | [_], _ => rfl⟩
theorem ok_look_at_fact : EntOk es cs xt e_look_at_fact := ⟨by decide +kernel, ⟨200, by kernel_rfl⟩, fun _ _ _ _ _ _ us hl => match us, hl with | [_], _ => rfl⟩
theorem ok__law_cell : EntOk es cs xt e__law_cell := ⟨by decide +kernel, ⟨200, by kernel_rfl⟩, fun _ _ _ _ _ _ us hl => match us, hl with | [_, _], _ => rfl⟩
theorem ok__law_state : EntOk es cs xt e__law_state := ⟨by decide +kernel, ⟨200, by kernel_rfl⟩, fun _ _ _ _ _ _ us hl => match us, hl with | [_], _ => rfl⟩
theorem ok__law_pick : EntOk es cs xt e__law_pick := ⟨by decide +kernel, ⟨200, by kernel_rfl⟩, fun _ _ _ _ _ _ us hl => match us, hl with | [_, _], _ => rfl⟩
theorem ok__law_named : EntOk es cs xt e__law_named := ⟨by decide +kernel, ⟨200, by kernel_rfl⟩, fun _ _ _ _ _ _ us hl => match us, hl with | [_], _ => rfl⟩
theorem ok__law_wordy : EntOk es cs xt e__law_wordy := ⟨by decide +kernel, ⟨200, by kernel_rfl⟩, fun _ _ _ _ _ _ us hl => match us, hl with | [_, _], _ => rfl⟩
theorem ok__law_kinds : EntOk es cs xt e__law_kinds := ⟨by decide +kernel, ⟨200, by kernel_rfl⟩, fun _ _ _ _ _ _ us hl => match us, hl with | [_], _ => rfl⟩
theorem ok__law_term : EntOk es cs xt e__law_term := ⟨by decide +kernel, ⟨200, by kernel_rfl⟩, fun _ _ _ _ _ _ us hl => match us, hl with | [_], _ => rfl⟩
theorem ok__law_atom : EntOk es cs xt e__law_atom := ⟨by decide +kernel, ⟨200, by kernel_rfl⟩, fun _ _ _ _ _ _ us hl => match us, hl with | [_], _ => rfl⟩
theorem ok__law_valued : EntOk es cs xt e__law_valued := ⟨by decide +kernel, ⟨200, by kernel_rfl⟩, fun _ _ _ _ _ _ us hl => match us, hl with | [_], _ => rfl⟩
theorem ok__law_termed : EntOk es cs xt e__law_termed := ⟨by decide +kernel, ⟨200, by kernel_rfl⟩, fun _ _ _ _ _ _ us hl => match us, hl with | [_], _ => rfl⟩
theorem ok__law_word : EntOk es cs xt e__law_word := ⟨by decide +kernel, ⟨200, by kernel_rfl⟩, fun _ _ _ _ _ _ us hl => match us, hl with | [_, _], _ => rfl⟩
theorem ok_law : EntOk es cs xt e_law := ⟨by decide +kernel, ⟨200, by kernel_rfl⟩, fun _ _ _ _ _ _ us hl => match us, hl with | [_], _ => rfl⟩
theorem tb_is_wordlike : tabOf es "is_wordlike" = some d_is_wordlike := by kernel_rfl
theorem tb_is_name : tabOf es "is_name" = some d_is_name := by kernel_rfl
theorem tb_is_variable : tabOf es "is_variable" = some d_is_variable := by kernel_rfl
theorem tb_is_value : tabOf es "is_value" = some d_is_value := by kernel_rfl
theorem tb_look_at_pair : tabOf es "look_at_pair" = some d_look_at_pair := by kernel_rfl
theorem tb_look_at_atom : tabOf es "look_at_atom" = some d_look_at_atom := by kernel_rfl
theorem tb_look_at_fact : tabOf es "look_at_fact" = some d_look_at_fact := by kernel_rfl
theorem tb__law_cell : tabOf es "_law_cell" = some d__law_cell := by kernel_rfl
theorem tb__law_state : tabOf es "_law_state" = some d__law_state := by kernel_rfl
theorem tb__law_pick : tabOf es "_law_pick" = some d__law_pick := by kernel_rfl
theorem tb__law_named : tabOf es "_law_named" = some d__law_named := by kernel_rfl
theorem tb__law_wordy : tabOf es "_law_wordy" = some d__law_wordy := by kernel_rfl
theorem tb__law_kinds : tabOf es "_law_kinds" = some d__law_kinds := by kernel_rfl
theorem tb__law_term : tabOf es "_law_term" = some d__law_term := by kernel_rfl
theorem tb__law_atom : tabOf es "_law_atom" = some d__law_atom := by kernel_rfl
theorem tb__law_valued : tabOf es "_law_valued" = some d__law_valued := by kernel_rfl
theorem tb__law_termed : tabOf es "_law_termed" = some d__law_termed := by kernel_rfl
theorem tb__law_word : tabOf es "_law_word" = some d__law_word := by kernel_rfl
theorem tb_law : tabOf es "law" = some d_law := by kernel_rfl
theorem gl_SMALL : glOf cs "SMALL" = some (.str "abcdefghijklmnopqrstuvwxyz") := by kernel_rfl
theorem gl_GREAT : glOf cs "GREAT" = some (.str "ABCDEFGHIJKLMNOPQRSTUVWXYZ") := by kernel_rfl
theorem gl_FIGURES : glOf cs "FIGURES" = some (.str "0123456789") := by kernel_rfl
theorem gl_KEPT : glOf cs "KEPT" = some (.tuple [(.str "not"), (.str "count"), (.str "sum"), (.str "least"), (.str "most")]) := by kernel_rfl
theorem gl_MOST_SIGNS : glOf cs "MOST_SIGNS" = some (.int (12)) := by kernel_rfl
theorem gl_MOST_NUMBER : glOf cs "MOST_NUMBER" = some (.int (1000000000000000000000000000000)) := by kernel_rfl
theorem gl_MOST_PLACES : glOf cs "MOST_PLACES" = some (.int (6)) := by kernel_rfl
def CD (m k : Nat) : Calls := callD (tabOf es) (glOf cs) m k
theorem cd_is_wordlike {m k : Nat} (args : List Cell) : CD m (k + 1) "is_wordlike" args = runBody (CD m k) (glOf cs) m d_is_wordlike args := callD_at tb_is_wordlike args
theorem cd_is_name {m k : Nat} (args : List Cell) : CD m (k + 1) "is_name" args = runBody (CD m k) (glOf cs) m d_is_name args := callD_at tb_is_name args
theorem cd_is_variable {m k : Nat} (args : List Cell) : CD m (k + 1) "is_variable" args = runBody (CD m k) (glOf cs) m d_is_variable args := callD_at tb_is_variable args
theorem cd_is_value {m k : Nat} (args : List Cell) : CD m (k + 1) "is_value" args = runBody (CD m k) (glOf cs) m d_is_value args := callD_at tb_is_value args
theorem cd_look_at_pair {m k : Nat} (args : List Cell) : CD m (k + 1) "look_at_pair" args = runBody (CD m k) (glOf cs) m d_look_at_pair args := callD_at tb_look_at_pair args
theorem cd_look_at_atom {m k : Nat} (args : List Cell) : CD m (k + 1) "look_at_atom" args = runBody (CD m k) (glOf cs) m d_look_at_atom args := callD_at tb_look_at_atom args
theorem cd_look_at_fact {m k : Nat} (args : List Cell) : CD m (k + 1) "look_at_fact" args = runBody (CD m k) (glOf cs) m d_look_at_fact args := callD_at tb_look_at_fact args
theorem cd__law_cell {m k : Nat} (args : List Cell) : CD m (k + 1) "_law_cell" args = runBody (CD m k) (glOf cs) m d__law_cell args := callD_at tb__law_cell args
theorem cd__law_state {m k : Nat} (args : List Cell) : CD m (k + 1) "_law_state" args = runBody (CD m k) (glOf cs) m d__law_state args := callD_at tb__law_state args
theorem cd__law_pick {m k : Nat} (args : List Cell) : CD m (k + 1) "_law_pick" args = runBody (CD m k) (glOf cs) m d__law_pick args := callD_at tb__law_pick args
theorem cd__law_named {m k : Nat} (args : List Cell) : CD m (k + 1) "_law_named" args = runBody (CD m k) (glOf cs) m d__law_named args := callD_at tb__law_named args
theorem cd__law_wordy {m k : Nat} (args : List Cell) : CD m (k + 1) "_law_wordy" args = runBody (CD m k) (glOf cs) m d__law_wordy args := callD_at tb__law_wordy args
theorem cd__law_kinds {m k : Nat} (args : List Cell) : CD m (k + 1) "_law_kinds" args = runBody (CD m k) (glOf cs) m d__law_kinds args := callD_at tb__law_kinds args
theorem cd__law_term {m k : Nat} (args : List Cell) : CD m (k + 1) "_law_term" args = runBody (CD m k) (glOf cs) m d__law_term args := callD_at tb__law_term args
theorem cd__law_atom {m k : Nat} (args : List Cell) : CD m (k + 1) "_law_atom" args = runBody (CD m k) (glOf cs) m d__law_atom args := callD_at tb__law_atom args
theorem cd__law_valued {m k : Nat} (args : List Cell) : CD m (k + 1) "_law_valued" args = runBody (CD m k) (glOf cs) m d__law_valued args := callD_at tb__law_valued args
theorem cd__law_termed {m k : Nat} (args : List Cell) : CD m (k + 1) "_law_termed" args = runBody (CD m k) (glOf cs) m d__law_termed args := callD_at tb__law_termed args
theorem cd__law_word {m k : Nat} (args : List Cell) : CD m (k + 1) "_law_word" args = runBody (CD m k) (glOf cs) m d__law_word args := callD_at tb__law_word args
theorem cd_law {m k : Nat} (args : List Cell) : CD m (k + 1) "law" args = runBody (CD m k) (glOf cs) m d_law args := callD_at tb_law args
theorem oks : AllP (EntOk es cs xt) es := ⟨ok_is_wordlike, ok_is_name, ok_is_variable, ok_is_value, ok_look_at_pair, ok_look_at_atom, ok_look_at_fact, ok__law_cell, ok__law_state, ok__law_pick, ok__law_named, ok__law_wordy, ok__law_kinds, ok__law_term, ok__law_atom, ok__law_valued, ok__law_termed, ok__law_word, ok_law, trivial⟩
abbrev R : PySem.W.OpenRow := PySem.W.OpenLaw.row PySem.Challenge.rw_stayledger_k03_atoms_looked_at
def nm0 : List PySem.Str := ["LedgerError", "BadAtom", "BadRule", "Unsafe", "Unlike", "TooMany", "BadFact", "BadText", "NotRing", "NoReason", "Holds", "BadChange", "BadQuestion", "BadPrices", "NotRising", "NotPlain", "NoMoment", "NoRule", "SMALL", "GREAT", "FIGURES", "KEPT", "MOST_SIGNS", "MOST_NUMBER", "is_wordlike", "is_name", "is_variable", "is_value", "MOST_PLACES", "look_at_pair"]
def nm1 : List PySem.Str := ["look_at_atom", "look_at_fact", "_law_cell", "_law_state", "_law_pick", "_law_named", "_law_wordy", "_law_kinds", "_law_term", "_law_atom", "_law_valued", "_law_termed", "_law_word"]
def loose : List PySem.Str := nm0 ++ nm1
abbrev hk : PySem.W.Hook := hookE 4 (faOf es) (es.map fdOf) cs xt
def ob (s : PySem.W.SharedT) : AlE := obsE 4 (faOf es) (es.map fdOf) cs xt (HandSHeadRun.getT s)
theorem ob_eq (s : PySem.W.SharedT) : ob s = hk.obs s.abs := obsE_eq (HandSHeadRun.getT_eq s)
theorem run (w : World) : HandSHeadRun.RunEq R (PySem.W.view R.prog [47]) hk ob 8000 loose w := by
  intro os
  kernel_rfl
end K03
end DE

namespace DE.K03
open PySem PySem.Spec PyProof.Rows L2 DE.Lib
section
variable {m : Nat}
theorem sl : sizeLine = 16777216 := by decide
theorem pick (k : Nat) (a b n : Int) (hs : StOk a b) (hn : 0 < n) (hn2 : n < 2 ^ 200) : ∃ r a' b', CD m (k + 1) "_law_pick" [.inp (stD a b), .pure (.int n)] = .ret (.pure (.int r)) [.inp (stD a' b'), .pure (.int n)] ∧ StOk a' b' ∧ 0 ≤ r ∧ r < n := pick_ok tb__law_pick k a b n hs hn hn2
theorem state (k : Nat) (c : Int) : ∃ a b, CD m (k + 1) "_law_state" [.pure (.int c)] = .ret (.own (stD a b)) [.pure (.int c)] ∧ StOk a b := state_ok tb__law_state k c
theorem bi (n : Int) : eqOk (.int n) = true := rfl
abbrev nin (c : Cell) : Prop := ∀ d, c ≠ Cell.inp d
theorem rng_len (n : Int) : (rngD 0 n).length = n.toNat := by
  unfold rngD
  rw [List.length_map, List.length_range, Int.sub_zero]
/-- terms: numbers and texts -/
inductive Tt : D -> Prop
  | int (n : Int) : Tt (.int n)
  | str (z : Str) : z.cps.toList.length ≤ 1000 -> Tt (.str z)
/-- pairs of a name and terms -/
inductive At : D -> Prop
  | mk (z : Str) (ts : List D) : z.cps.toList.length ≤ 1000 -> ts.length ≤ 8 -> (∀ t ∈ ts, Tt t) -> At (.tuple [.str z, .tuple ts])
theorem wlh : WlH (tabOf es) (glOf cs) := ⟨tb_is_wordlike, gl_SMALL, gl_FIGURES, gl_MOST_SIGNS⟩
theorem str_back (z : Str) : (⟨z.cps.toList.toArray⟩ : Str) = z := by cases z; simp
def nameS (z : Str) : Bool := nameB z.cps.toList
def valB : D -> Bool
  | .str z => nameS z
  | .int n => decide (-1000000000000000000000000000000 < n) && decide (n < 1000000000000000000000000000000)
  | _ => false
def varB : D -> Bool
  | .str z => wlL sGR z.cps.toList
  | _ => false
theorem name_ok (k : Nat) (z : Str) (h : z.cps.toList.length ≤ 1000) : CD m (k + 2) "is_name" [.pure (.str z)] = .ret (.pure (.bool (nameS z))) [.pure (.str z)] := by
  have e := is_name_str (m := m) wlh tb_is_name gl_KEPT k z.cps.toList h
  rw [str_back] at e
  exact e
theorem value_ok (k : Nat) (d : D) (h : Tt d) : CD m (k + 3) "is_value" [.pure d] = .ret (.pure (.bool (valB d))) [.pure d] := by
  cases h with
  | int n =>
    rw [cd_is_value]
    by_cases h1 : -1000000000000000000000000000000 < n <;> by_cases h2 : n < 1000000000000000000000000000000 <;> simp [d_is_value, b_is_value, runBody, execSs, execS, evalE, evalT, evalEs, evalRs, evalAs, evalI, evalO, evalC, bind_ok, bind_ex, bind_no, settle, rd, Cell.rd, bltD, lenD, ofO, tk, asgC, two, rdTo, cmpD, ordD, binD, truthD, esc, retV, outsOf, setC, hasV, setD, Cell.isOwn, backTo1, idxD, callA, arCells, arCell, refsOf, putBack, size2, isiO, isX, isiD, gl_MOST_NUMBER, valB, h1, h2]
  | str z hz =>
    have e := is_value_str (m := m) wlh tb_is_name gl_KEPT tb_is_value k z.cps.toList hz
    rw [str_back] at e
    exact e
theorem variable_ok (k : Nat) (d : D) (h : Tt d) : CD m (k + 2) "is_variable" [.pure d] = .ret (.pure (.bool (varB d))) [.pure d] := by
  cases h with
  | int n =>
    have z : CD m (k + 1) "is_wordlike" [.pure (.int n), .pure (.str sGR)] = .ret (.pure (.bool false)) [.pure (.int n), .pure (.str sGR)] := wordlike_int wlh k n sGR
    rw [cd_is_variable]
    simp [d_is_variable, b_is_variable, runBody, execSs, execS, evalE, evalT, evalEs, evalRs, evalAs, evalI, evalO, evalC, bind_ok, bind_ex, bind_no, settle, rd, Cell.rd, bltD, lenD, ofO, tk, asgC, two, rdTo, cmpD, ordD, binD, truthD, esc, retV, outsOf, setC, hasV, setD, Cell.isOwn, backTo1, idxD, callA, arCells, arCell, refsOf, putBack, size2, isiO, isX, gl_GREAT, z, varB]
  | str z hz =>
    have e := is_variable_str (m := m) wlh tb_is_variable gl_GREAT k z.cps.toList hz
    rw [str_back] at e
    exact e
abbrev bad : Exn := ⟨"BadAtom", none⟩
def pairB (z : Str) (ts : List D) : Bool := nameS z && decide (ts.length < 7)
theorem at2 (a b : D) : atI [a, b] 0 = some a ∧ atI [a, b] 1 = some b := ⟨rfl, rfl⟩
theorem asg2a {Γ : Calls} {gl : Str -> Option D} {W : Nat} (x y : D) (d : D) (h : d = .tuple [x, y] := by rfl) : execS Γ gl W (.asgT (.tp [.nm 1, .nm 2]) (.slot 0)) [.pure d, .emp, .emp] = .ok .nx [.pure d, .pure x, .pure y] := by
  subst h
  unfold execS evalE
  rfl
theorem pair_ok (k : Nat) (z : Str) (ts : List D) (hz : z.cps.toList.length ≤ 1000) : CD m (k + 3) "look_at_pair" [.pure (.tuple [.str z, .tuple ts])] = if pairB z ts = true then .ret (.pure .none) [.pure (.tuple [.str z, .tuple ts])] else .exc bad [.pure (.tuple [.str z, .tuple ts])] := by
  have e := name_ok (m := m) k z hz
  have asg2 : execS (CD m (k + 2)) (glOf cs) m (.asgT (.tp [.nm 1, .nm 2]) (.slot 0)) [.pure (.tuple [.str z, .tuple ts]), .emp, .emp] = .ok .nx [.pure (.tuple [.str z, .tuple ts]), .pure (.str z), .pure (.tuple ts)] := by
    exact asg2a _ _ _
  rw [cd_look_at_pair]
  unfold pairB
  cases h1 : nameS z
  · rw [h1] at e
    simp [d_look_at_pair, b_look_at_pair, runBody, execSs, ↓asg2]
    simp [runBody, execSs, execS, evalE, evalT, evalEs, evalRs, evalAs, evalI, evalO, evalC, bind_ok, bind_ex, bind_no, settle, rd, Cell.rd, bltD, lenD, ofO, tk, asgC, two, rdTo, cmpD, ordD, binD, truthD, esc, retV, outsOf, setC, hasV, setD, Cell.isOwn, backTo1, idxD, callA, arCells, arCell, refsOf, putBack, size2, isiO, isX, e]
  · rw [h1] at e
    by_cases h2 : ts.length < 7
    · have h3 : ¬ (6 : Int) < ts.length := by omega
      simp [d_look_at_pair, b_look_at_pair, runBody, execSs, ↓asg2]
      simp [runBody, execSs, execS, evalE, evalT, evalEs, evalRs, evalAs, evalI, evalO, evalC, bind_ok, bind_ex, bind_no, settle, rd, Cell.rd, bltD, lenD, ofO, tk, asgC, two, rdTo, cmpD, ordD, binD, truthD, esc, retV, outsOf, setC, hasV, setD, Cell.isOwn, backTo1, idxD, callA, arCells, arCell, refsOf, putBack, size2, isiO, isX, e, gl_MOST_PLACES, h2, h3]
    · have h3 : (6 : Int) < ts.length := by omega
      simp [d_look_at_pair, b_look_at_pair, runBody, execSs, ↓asg2]
      simp [runBody, execSs, execS, evalE, evalT, evalEs, evalRs, evalAs, evalI, evalO, evalC, bind_ok, bind_ex, bind_no, settle, rd, Cell.rd, bltD, lenD, ofO, tk, asgC, two, rdTo, cmpD, ordD, binD, truthD, esc, retV, outsOf, setC, hasV, setD, Cell.isOwn, backTo1, idxD, callA, arCells, arCell, refsOf, putBack, size2, isiO, isX, e, gl_MOST_PLACES, h2, h3]
end
end DE.K03

namespace DE.K03
open PySem PySem.Spec PyProof.Rows L2 DE.Lib
section
variable {m : Nat}
def termB (d : D) : Bool := valB d || varB d
theorem atom_loop (k : Nat) (A : Cell) : ∀ (ts : List D) (c1 : Cell), nin c1 -> (∀ t ∈ ts, Tt t) -> ∃ c1', forLoop (forBody (.nm 1) (execSs (CD m (k + 3)) (glOf cs) m w1_look_at_atom)) ts [A, c1] = if ts.all termB = true then .ok .nx [A, c1'] else .ex bad [A, c1']
  | [], c1, _, _ => ⟨c1, by simp [forLoop]⟩
  | t :: r, c1, n1, h => by
    have ht := h t (List.mem_cons_self ..)
    have e1 := value_ok (m := m) k t ht
    have e2 := variable_ok (m := m) (k + 1) t ht
    obtain ⟨c2, ih⟩ := atom_loop k A r (.pure t) (fun d e => by cases e) fun x hx => h x (List.mem_cons_of_mem _ hx)
    cases q : termB t
    · refine ⟨.pure t, ?_⟩
      have q1 : valB t = false := by unfold termB at q; cases z : valB t <;> simp_all
      have q2 : varB t = false := by unfold termB at q; cases z : varB t <;> simp_all
      rw [q1] at e1
      rw [q2] at e2
      have one : forBody (.nm 1) (execSs (CD m (k + 3)) (glOf cs) m w1_look_at_atom) t [A, c1] = .ex bad [A, .pure t] := by
        cases c1 with
        | inp d => exact absurd rfl (n1 d)
        | _ => simp [forBody, asgD, w1_look_at_atom, runBody, execSs, execS, evalE, evalT, evalEs, evalRs, evalAs, evalI, evalO, evalC, bind_ok, bind_ex, bind_no, settle, rd, Cell.rd, bltD, lenD, ofO, tk, asgC, two, rdTo, cmpD, ordD, binD, truthD, esc, retV, outsOf, setC, hasV, setD, Cell.isOwn, backTo1, idxD, callA, arCells, arCell, refsOf, putBack, size2, isiO, isX, e1, e2]
      simp [forLoop, one, q]
    · refine ⟨c2, ?_⟩
      have one : forBody (.nm 1) (execSs (CD m (k + 3)) (glOf cs) m w1_look_at_atom) t [A, c1] = .ok .nx [A, .pure t] := by
        cases z : valB t
        · have q2 : varB t = true := by unfold termB at q; rw [z] at q; simpa using q
          rw [z] at e1
          rw [q2] at e2
          cases c1 with
          | inp d => exact absurd rfl (n1 d)
          | _ => simp [forBody, asgD, w1_look_at_atom, runBody, execSs, execS, evalE, evalT, evalEs, evalRs, evalAs, evalI, evalO, evalC, bind_ok, bind_ex, bind_no, settle, rd, Cell.rd, bltD, lenD, ofO, tk, asgC, two, rdTo, cmpD, ordD, binD, truthD, esc, retV, outsOf, setC, hasV, setD, Cell.isOwn, backTo1, idxD, callA, arCells, arCell, refsOf, putBack, size2, isiO, isX, e1, e2]
        · rw [z] at e1
          cases c1 with
          | inp d => exact absurd rfl (n1 d)
          | _ => simp [forBody, asgD, w1_look_at_atom, runBody, execSs, execS, evalE, evalT, evalEs, evalRs, evalAs, evalI, evalO, evalC, bind_ok, bind_ex, bind_no, settle, rd, Cell.rd, bltD, lenD, ofO, tk, asgC, two, rdTo, cmpD, ordD, binD, truthD, esc, retV, outsOf, setC, hasV, setD, Cell.isOwn, backTo1, idxD, callA, arCells, arCell, refsOf, putBack, size2, isiO, isX, e1]
      simp only [forLoop, one, ih, List.all_cons, q, Bool.true_and]
theorem fact_loop (k : Nat) (A : Cell) : ∀ (ts : List D) (c1 : Cell), nin c1 -> (∀ t ∈ ts, Tt t) -> ∃ c1', forLoop (forBody (.nm 1) (execSs (CD m (k + 3)) (glOf cs) m w1_look_at_fact)) ts [A, c1] = if ts.all valB = true then .ok .nx [A, c1'] else .ex bad [A, c1']
  | [], c1, _, _ => ⟨c1, by simp [forLoop]⟩
  | t :: r, c1, n1, h => by
    have ht := h t (List.mem_cons_self ..)
    have e1 := value_ok (m := m) k t ht
    obtain ⟨c2, ih⟩ := fact_loop k A r (.pure t) (fun d e => by cases e) fun x hx => h x (List.mem_cons_of_mem _ hx)
    cases q : valB t
    · refine ⟨.pure t, ?_⟩
      rw [q] at e1
      have one : forBody (.nm 1) (execSs (CD m (k + 3)) (glOf cs) m w1_look_at_fact) t [A, c1] = .ex bad [A, .pure t] := by
        cases c1 with
        | inp d => exact absurd rfl (n1 d)
        | _ => simp [forBody, asgD, w1_look_at_fact, runBody, execSs, execS, evalE, evalT, evalEs, evalRs, evalAs, evalI, evalO, evalC, bind_ok, bind_ex, bind_no, settle, rd, Cell.rd, bltD, lenD, ofO, tk, asgC, two, rdTo, cmpD, ordD, binD, truthD, esc, retV, outsOf, setC, hasV, setD, Cell.isOwn, backTo1, idxD, callA, arCells, arCell, refsOf, putBack, size2, isiO, isX, e1]
      simp [forLoop, one, q]
    · refine ⟨c2, ?_⟩
      rw [q] at e1
      have one : forBody (.nm 1) (execSs (CD m (k + 3)) (glOf cs) m w1_look_at_fact) t [A, c1] = .ok .nx [A, .pure t] := by
        cases c1 with
        | inp d => exact absurd rfl (n1 d)
        | _ => simp [forBody, asgD, w1_look_at_fact, runBody, execSs, execS, evalE, evalT, evalEs, evalRs, evalAs, evalI, evalO, evalC, bind_ok, bind_ex, bind_no, settle, rd, Cell.rd, bltD, lenD, ofO, tk, asgC, two, rdTo, cmpD, ordD, binD, truthD, esc, retV, outsOf, setC, hasV, setD, Cell.isOwn, backTo1, idxD, callA, arCells, arCell, refsOf, putBack, size2, isiO, isX, e1]
      simp only [forLoop, one, ih, List.all_cons, q, Bool.true_and]
def okB (w : Int) (z : Str) (ts : List D) : Bool := pairB z ts && if w = 0 then ts.all termB else ts.all valB
theorem look_atom (k : Nat) (z : Str) (ts : List D) (hz : z.cps.toList.length ≤ 1000) (h : ∀ t ∈ ts, Tt t) : CD m (k + 4) "look_at_atom" [.pure (.tuple [.str z, .tuple ts])] = if okB 0 z ts = true then .ret (.pure .none) [.pure (.tuple [.str z, .tuple ts])] else .exc bad [.pure (.tuple [.str z, .tuple ts])] := by
  have e := pair_ok (m := m) k z ts hz
  obtain ⟨c1, el⟩ := atom_loop (m := m) k (.pure (.tuple [.str z, .tuple ts])) ts .emp (fun d e => by cases e) h
  rw [cd_look_at_atom]
  unfold okB
  cases q1 : pairB z ts
  · rw [q1] at e
    have e : CD m (k + 3) "look_at_pair" [.pure (.tuple [.str z, .tuple ts])] = .exc bad [.pure (.tuple [.str z, .tuple ts])] := e
    simp [d_look_at_atom, b_look_at_atom, runBody, execSs, execS, evalE, evalT, evalEs, evalRs, evalAs, evalI, evalO, evalC, bind_ok, bind_ex, bind_no, settle, rd, Cell.rd, bltD, lenD, ofO, tk, asgC, two, rdTo, cmpD, ordD, binD, truthD, esc, retV, outsOf, setC, hasV, setD, Cell.isOwn, backTo1, idxD, callA, arCells, arCell, refsOf, putBack, size2, isiO, isX, e]
  · rw [q1] at e
    have e : CD m (k + 3) "look_at_pair" [.pure (.tuple [.str z, .tuple ts])] = .ret (.pure .none) [.pure (.tuple [.str z, .tuple ts])] := e
    cases q2 : ts.all termB
    · rw [q2] at el
      have hloop : execS (CD m (k + 3)) (glOf cs) m l2_look_at_atom [.pure (.tuple [.str z, .tuple ts]), .emp] = .ex bad [.pure (.tuple [.str z, .tuple ts]), c1] := by
        unfold l2_look_at_atom
        simp [runBody, execSs, execS, evalE, evalT, evalEs, evalRs, evalAs, evalI, evalO, evalC, bind_ok, bind_ex, bind_no, settle, rd, Cell.rd, bltD, lenD, ofO, tk, asgC, two, rdTo, cmpD, ordD, binD, truthD, esc, retV, outsOf, setC, hasV, setD, Cell.isOwn, backTo1, idxD, callA, arCells, arCell, refsOf, putBack, size2, isiO, isX, at2, itemsD]
        exact el
      simp [d_look_at_atom, b_look_at_atom, runBody, execSs, execS, evalE, evalT, evalEs, evalRs, evalAs, evalI, evalO, evalC, bind_ok, bind_ex, bind_no, settle, rd, Cell.rd, bltD, lenD, ofO, tk, asgC, two, rdTo, cmpD, ordD, binD, truthD, esc, retV, outsOf, setC, hasV, setD, Cell.isOwn, backTo1, idxD, callA, arCells, arCell, refsOf, putBack, size2, isiO, isX, e, hloop]
    · rw [q2] at el
      have hloop : execS (CD m (k + 3)) (glOf cs) m l2_look_at_atom [.pure (.tuple [.str z, .tuple ts]), .emp] = .ok .nx [.pure (.tuple [.str z, .tuple ts]), c1] := by
        unfold l2_look_at_atom
        simp [runBody, execSs, execS, evalE, evalT, evalEs, evalRs, evalAs, evalI, evalO, evalC, bind_ok, bind_ex, bind_no, settle, rd, Cell.rd, bltD, lenD, ofO, tk, asgC, two, rdTo, cmpD, ordD, binD, truthD, esc, retV, outsOf, setC, hasV, setD, Cell.isOwn, backTo1, idxD, callA, arCells, arCell, refsOf, putBack, size2, isiO, isX, at2, itemsD]
        exact el
      simp [d_look_at_atom, b_look_at_atom, runBody, execSs, execS, evalE, evalT, evalEs, evalRs, evalAs, evalI, evalO, evalC, bind_ok, bind_ex, bind_no, settle, rd, Cell.rd, bltD, lenD, ofO, tk, asgC, two, rdTo, cmpD, ordD, binD, truthD, esc, retV, outsOf, setC, hasV, setD, Cell.isOwn, backTo1, idxD, callA, arCells, arCell, refsOf, putBack, size2, isiO, isX, e, hloop]
theorem look_fact (k : Nat) (z : Str) (ts : List D) (hz : z.cps.toList.length ≤ 1000) (h : ∀ t ∈ ts, Tt t) : CD m (k + 4) "look_at_fact" [.pure (.tuple [.str z, .tuple ts])] = if okB 1 z ts = true then .ret (.pure .none) [.pure (.tuple [.str z, .tuple ts])] else .exc bad [.pure (.tuple [.str z, .tuple ts])] := by
  have e := pair_ok (m := m) k z ts hz
  obtain ⟨c1, el⟩ := fact_loop (m := m) k (.pure (.tuple [.str z, .tuple ts])) ts .emp (fun d e => by cases e) h
  rw [cd_look_at_fact]
  unfold okB
  cases q1 : pairB z ts
  · rw [q1] at e
    have e : CD m (k + 3) "look_at_pair" [.pure (.tuple [.str z, .tuple ts])] = .exc bad [.pure (.tuple [.str z, .tuple ts])] := e
    simp [d_look_at_fact, b_look_at_fact, runBody, execSs, execS, evalE, evalT, evalEs, evalRs, evalAs, evalI, evalO, evalC, bind_ok, bind_ex, bind_no, settle, rd, Cell.rd, bltD, lenD, ofO, tk, asgC, two, rdTo, cmpD, ordD, binD, truthD, esc, retV, outsOf, setC, hasV, setD, Cell.isOwn, backTo1, idxD, callA, arCells, arCell, refsOf, putBack, size2, isiO, isX, e]
  · rw [q1] at e
    have e : CD m (k + 3) "look_at_pair" [.pure (.tuple [.str z, .tuple ts])] = .ret (.pure .none) [.pure (.tuple [.str z, .tuple ts])] := e
    cases q2 : ts.all valB
    · rw [q2] at el
      have hloop : execS (CD m (k + 3)) (glOf cs) m l2_look_at_fact [.pure (.tuple [.str z, .tuple ts]), .emp] = .ex bad [.pure (.tuple [.str z, .tuple ts]), c1] := by
        unfold l2_look_at_fact
        simp [runBody, execSs, execS, evalE, evalT, evalEs, evalRs, evalAs, evalI, evalO, evalC, bind_ok, bind_ex, bind_no, settle, rd, Cell.rd, bltD, lenD, ofO, tk, asgC, two, rdTo, cmpD, ordD, binD, truthD, esc, retV, outsOf, setC, hasV, setD, Cell.isOwn, backTo1, idxD, callA, arCells, arCell, refsOf, putBack, size2, isiO, isX, at2, itemsD]
        exact el
      simp [d_look_at_fact, b_look_at_fact, runBody, execSs, execS, evalE, evalT, evalEs, evalRs, evalAs, evalI, evalO, evalC, bind_ok, bind_ex, bind_no, settle, rd, Cell.rd, bltD, lenD, ofO, tk, asgC, two, rdTo, cmpD, ordD, binD, truthD, esc, retV, outsOf, setC, hasV, setD, Cell.isOwn, backTo1, idxD, callA, arCells, arCell, refsOf, putBack, size2, isiO, isX, e, hloop]
    · rw [q2] at el
      have hloop : execS (CD m (k + 3)) (glOf cs) m l2_look_at_fact [.pure (.tuple [.str z, .tuple ts]), .emp] = .ok .nx [.pure (.tuple [.str z, .tuple ts]), c1] := by
        unfold l2_look_at_fact
        simp [runBody, execSs, execS, evalE, evalT, evalEs, evalRs, evalAs, evalI, evalO, evalC, bind_ok, bind_ex, bind_no, settle, rd, Cell.rd, bltD, lenD, ofO, tk, asgC, two, rdTo, cmpD, ordD, binD, truthD, esc, retV, outsOf, setC, hasV, setD, Cell.isOwn, backTo1, idxD, callA, arCells, arCell, refsOf, putBack, size2, isiO, isX, at2, itemsD]
        exact el
      simp [d_look_at_fact, b_look_at_fact, runBody, execSs, execS, evalE, evalT, evalEs, evalRs, evalAs, evalI, evalO, evalC, bind_ok, bind_ex, bind_no, settle, rd, Cell.rd, bltD, lenD, ofO, tk, asgC, two, rdTo, cmpD, ordD, binD, truthD, esc, retV, outsOf, setC, hasV, setD, Cell.isOwn, backTo1, idxD, callA, arCells, arCell, refsOf, putBack, size2, isiO, isX, e, hloop]
/-! ### the law's word -/
theorem kinds_ok (k : Nat) : ∃ o, CD m (k + 1) "_law_kinds" [.pure (excD "BadAtom")] = .ret (.pure (.bool true)) o := by
  rw [cd__law_kinds]
  refine ⟨[.pure (excD "BadAtom")], ?_⟩
  simp [d__law_kinds, b__law_kinds, runBody, execSs, execS, evalE, evalT, evalEs, evalRs, evalAs, evalI, evalO, evalC, bind_ok, bind_ex, bind_no, settle, rd, Cell.rd, bltD, lenD, ofO, tk, asgC, two, rdTo, cmpD, ordD, binD, truthD, esc, retV, outsOf, setC, hasV, setD, Cell.isOwn, backTo1, idxD, callA, arCells, arCell, refsOf, putBack, size2, isiO, isX, isxD, excOf, okTy, mthA, mthD, boolsOf, eqD, bi, PyData.eqv, sl]
theorem word_ok (k : Nat) (w : Int) (hw : w = 0 ∨ w = 1) (z : Str) (ts : List D) (hz : z.cps.toList.length ≤ 1000) (h : ∀ t ∈ ts, Tt t) : ∃ o, CD m (k + 5) "_law_word" [.pure (.int w), .pure (.tuple [.str z, .tuple ts])] = .ret (.pure (.str (if okB w z ts = true then "told" else "atom"))) o := by
  obtain ⟨o, ek⟩ := kinds_ok (m := m) (k + 3)
  have ek : CD m (k + 4) "_law_kinds" [.pure (.dict [(.none, .str "BadAtom")])] = .ret (.pure (.bool true)) o := ek
  have pb1 : ∀ (d : D) (o : List Cell) (δ : DEnv), putBack [Ar.d d] o δ = δ := fun d o δ => by cases o <;> simp [putBack]
  have z2 : 2 ≤ sizeLine := by decide
  have tin : ∀ (w : Int) (b : Bool), (if w = 0 then CD m (k + 4) "look_at_atom" [.pure (.tuple [.str z, .tuple ts])] else CD m (k + 4) "look_at_fact" [.pure (.tuple [.str z, .tuple ts])]) = (if b = true then .ret (.pure .none) [.pure (.tuple [.str z, .tuple ts])] else .exc bad [.pure (.tuple [.str z, .tuple ts])]) ->
      execSs (CD m (k + 4)) (glOf cs) m w1__law_word [.pure (.int w), .pure (.tuple [.str z, .tuple ts]), .pure .none, .pure .none, .emp] = if b = true then .ok .nx [.pure (.int w), .pure (.tuple [.str z, .tuple ts]), .pure .none, .pure .none, .emp] else .ex bad [.pure (.int w), .pure (.tuple [.str z, .tuple ts]), .pure .none, .pure .none, .emp] := fun w b e => by
    by_cases h0 : w = 0
    · subst h0
      rw [if_pos rfl] at e
      cases b
      · have e : CD m (k + 4) "look_at_atom" [.pure (.tuple [.str z, .tuple ts])] = .exc bad [.pure (.tuple [.str z, .tuple ts])] := e
        simp [w1__law_word, runBody, execSs, execS, evalE, evalT, evalEs, evalRs, evalAs, evalI, evalO, evalC, bind_ok, bind_ex, bind_no, settle, rd, Cell.rd, bltD, lenD, ofO, tk, asgC, two, rdTo, cmpD, ordD, binD, truthD, esc, retV, outsOf, setC, hasV, setD, Cell.isOwn, backTo1, idxD, callA, arCells, arCell, refsOf, putBack, size2, isiO, isX, eqD, bi, PyData.eqv, e]
      · have e : CD m (k + 4) "look_at_atom" [.pure (.tuple [.str z, .tuple ts])] = .ret (.pure .none) [.pure (.tuple [.str z, .tuple ts])] := e
        simp [w1__law_word, runBody, execSs, execS, evalE, evalT, evalEs, evalRs, evalAs, evalI, evalO, evalC, bind_ok, bind_ex, bind_no, settle, rd, Cell.rd, bltD, lenD, ofO, tk, asgC, two, rdTo, cmpD, ordD, binD, truthD, esc, retV, outsOf, setC, hasV, setD, Cell.isOwn, backTo1, idxD, callA, arCells, arCell, refsOf, putBack, size2, isiO, isX, eqD, bi, PyData.eqv, e]
    · rw [if_neg h0] at e
      have h0b : (w == 0) = false := by simpa using h0
      cases b
      · have e : CD m (k + 4) "look_at_fact" [.pure (.tuple [.str z, .tuple ts])] = .exc bad [.pure (.tuple [.str z, .tuple ts])] := e
        simp [w1__law_word, runBody, execSs, execS, evalE, evalT, evalEs, evalRs, evalAs, evalI, evalO, evalC, bind_ok, bind_ex, bind_no, settle, rd, Cell.rd, bltD, lenD, ofO, tk, asgC, two, rdTo, cmpD, ordD, binD, truthD, esc, retV, outsOf, setC, hasV, setD, Cell.isOwn, backTo1, idxD, callA, arCells, arCell, refsOf, putBack, size2, isiO, isX, eqD, bi, PyData.eqv, h0b, e]
      · have e : CD m (k + 4) "look_at_fact" [.pure (.tuple [.str z, .tuple ts])] = .ret (.pure .none) [.pure (.tuple [.str z, .tuple ts])] := e
        simp [w1__law_word, runBody, execSs, execS, evalE, evalT, evalEs, evalRs, evalAs, evalI, evalO, evalC, bind_ok, bind_ex, bind_no, settle, rd, Cell.rd, bltD, lenD, ofO, tk, asgC, two, rdTo, cmpD, ordD, binD, truthD, esc, retV, outsOf, setC, hasV, setD, Cell.isOwn, backTo1, idxD, callA, arCells, arCell, refsOf, putBack, size2, isiO, isX, eqD, bi, PyData.eqv, h0b, e]
  have body := tin w (okB w z ts) (by
    rcases hw with rfl | rfl
    · rw [if_pos rfl]; exact look_atom (m := m) k z ts hz h
    · rw [if_neg (by decide)]; exact look_fact (m := m) k z ts hz h)
  rw [cd__law_word]
  cases q : okB w z ts
  · rw [q] at body
    have body : execSs (CD m (k + 4)) (glOf cs) m w1__law_word [.pure (.int w), .pure (.tuple [.str z, .tuple ts]), .pure .none, .pure .none, .emp] = .ex bad [.pure (.int w), .pure (.tuple [.str z, .tuple ts]), .pure .none, .pure .none, .emp] := body
    have htry : execS (CD m (k + 4)) (glOf cs) m l2__law_word [.pure (.int w), .pure (.tuple [.str z, .tuple ts]), .pure .none, .pure .none, .emp] = .ok .nx [.pure (.int w), .pure (.tuple [.str z, .tuple ts]), .pure (excD "BadAtom"), .pure .none, .emp] := by
      unfold l2__law_word
      simp [execS, body, noInp]
    refine ⟨[.pure (.int w), .pure (.tuple [.str z, .tuple ts])], ?_⟩
    simp [pb1, d__law_word, b__law_word, runBody, execSs, execS, evalE, evalT, evalEs, evalRs, evalAs, evalI, evalO, evalC, bind_ok, bind_ex, bind_no, settle, rd, Cell.rd, bltD, lenD, ofO, tk, asgC, two, rdTo, cmpD, ordD, binD, truthD, esc, retV, outsOf, setC, hasV, setD, Cell.isOwn, backTo1, idxD, callA, arCells, arCell, refsOf, size2, isiO, isX, htry, isNone, isxD, excOf, ek, z2]
    rfl
  · rw [q] at body
    have body : execSs (CD m (k + 4)) (glOf cs) m w1__law_word [.pure (.int w), .pure (.tuple [.str z, .tuple ts]), .pure .none, .pure .none, .emp] = .ok .nx [.pure (.int w), .pure (.tuple [.str z, .tuple ts]), .pure .none, .pure .none, .emp] := body
    have htry : execS (CD m (k + 4)) (glOf cs) m l2__law_word [.pure (.int w), .pure (.tuple [.str z, .tuple ts]), .pure .none, .pure .none, .emp] = .ok .nx [.pure (.int w), .pure (.tuple [.str z, .tuple ts]), .pure .none, .pure .none, .emp] := by
      unfold l2__law_word
      simp [execS, body]
    refine ⟨[.pure (.int w), .pure (.tuple [.str z, .tuple ts])], ?_⟩
    simp [pb1, d__law_word, b__law_word, runBody, execSs, execS, evalE, evalT, evalEs, evalRs, evalAs, evalI, evalO, evalC, bind_ok, bind_ex, bind_no, settle, rd, Cell.rd, bltD, lenD, ofO, tk, asgC, two, rdTo, cmpD, ordD, binD, truthD, esc, retV, outsOf, setC, hasV, setD, Cell.isOwn, backTo1, idxD, callA, arCells, arCell, refsOf, size2, isiO, isX, htry, isNone, z2]
    rfl
end
end DE.K03

namespace DE.K03
open PySem PySem.Spec PyProof.Rows L2 DE.Lib
section
variable {m : Nat}
theorem term_ok (k : Nat) (a b : Int) (hs : StOk a b) : ∃ d a' b', Tt d ∧ CD m (k + 2) "_law_term" [.inp (stD a b)] = .ret (.pure d) [.inp (stD a' b')] ∧ StOk a' b' := by
  obtain ⟨w, a1, b1, e1, hs1, w0, w1⟩ := pick (m := m) k a b 12 hs (by omega) (by omega)
  rw [cd__law_term]
  by_cases h4 : w < 4
  · obtain ⟨s, hd, hm⟩ := atI_in (xs := [PyData.str "", .str "0", .str "1a", .str "y"]) (i := w) w0 h4
    simp only [List.mem_cons, List.not_mem_nil, or_false] at hm
    obtain ⟨z, rfl, hz⟩ : ∃ z, s = .str z ∧ z.cps.toList.length ≤ 10 := by
      rcases hm with rfl | rfl | rfl | rfl <;> exact ⟨_, rfl, by decide +kernel⟩
    have hz2 : ((("X" : Str) ++ z).cps.toList).length ≤ 1000 := by
      have := app_size "X" z
      have e1 : ("X" : Str).cps.size = 1 := by decide +kernel
      rw [Array.length_toList, this, e1]
      rw [Array.length_toList] at hz
      omega
    refine ⟨.str (("X" : Str) ++ z), a1, b1, .str _ hz2, ?_, hs1⟩
    have e1' : ("X" : Str).length = 1 := by decide +kernel
    have e2' : z.length ≤ 10 := by rw [str_len]; exact hz
    have z3 : ("X" : Str).length + z.length ≤ 16777216 := by omega
    have z5 : (("X" : Str) ++ z).cps.size ≤ 16777216 := by rw [← Array.length_toList]; omega
    have z6 : (("X" : Str) ++ z).length ≤ 16777216 := by rw [str_len]; omega
    simp [d__law_term, b__law_term, runBody, execSs, execS, evalE, evalT, evalEs, evalRs, evalAs, evalI, evalO, evalC, bind_ok, bind_ex, bind_no, settle, rd, Cell.rd, bltD, lenD, ofO, tk, asgC, two, rdTo, cmpD, ordD, binD, truthD, esc, retV, outsOf, setC, hasV, setD, Cell.isOwn, backTo1, idxD, callA, arCells, arCell, refsOf, putBack, size2, isiO, isX, e1, h4, hd, sl, z3, z5, z6]
  · by_cases h9 : w < 9
    · obtain ⟨s, hd, hm⟩ := atI_in (xs := [PyData.int 0, .int (-1), .int 999999999999999999999999999999, .str "a", .str "b0"]) (i := w - 4) (by omega) (show w - 4 < 5 by omega)
      have ht : Tt s := by
        simp only [List.mem_cons, List.not_mem_nil, or_false] at hm
        rcases hm with rfl | rfl | rfl | rfl | rfl <;> first | exact .int _ | exact .str _ (by decide +kernel)
      refine ⟨s, a1, b1, ht, ?_, hs1⟩
      simp [d__law_term, b__law_term, runBody, execSs, execS, evalE, evalT, evalEs, evalRs, evalAs, evalI, evalO, evalC, bind_ok, bind_ex, bind_no, settle, rd, Cell.rd, bltD, lenD, ofO, tk, asgC, two, rdTo, cmpD, ordD, binD, truthD, esc, retV, outsOf, setC, hasV, setD, Cell.isOwn, backTo1, idxD, callA, arCells, arCell, refsOf, putBack, size2, isiO, isX, e1, h4, h9, hd, sl]
    · by_cases h11 : w < 11
      · obtain ⟨q, a2, b2, e2, hs2, q0, q1⟩ := pick (m := m) k a1 b1 12 hs1 (by omega) (by omega)
        obtain ⟨s, hd, hm⟩ := atI_in (xs := [PyData.str "", .str "Aa", .str "AA", .str "a.b", .str "a23456789012", .str "a234567890123", .str "not", .str "most", .str "1a", .str "X Y", .str "_", .str "Z234567890123"]) (i := q) q0 q1
        have ht : Tt s := by
          simp only [List.mem_cons, List.not_mem_nil, or_false] at hm
          rcases hm with rfl | rfl | rfl | rfl | rfl | rfl | rfl | rfl | rfl | rfl | rfl | rfl <;> exact .str _ (by decide +kernel)
        refine ⟨s, a2, b2, ht, ?_, hs2⟩
        simp [d__law_term, b__law_term, runBody, execSs, execS, evalE, evalT, evalEs, evalRs, evalAs, evalI, evalO, evalC, bind_ok, bind_ex, bind_no, settle, rd, Cell.rd, bltD, lenD, ofO, tk, asgC, two, rdTo, cmpD, ordD, binD, truthD, esc, retV, outsOf, setC, hasV, setD, Cell.isOwn, backTo1, idxD, callA, arCells, arCell, refsOf, putBack, size2, isiO, isX, e1, h4, h9, h11, e2, hd, sl, okTy, mthA, mthD]
      · obtain ⟨q, a2, b2, e2, hs2, q0, q1⟩ := pick (m := m) k a1 b1 3 hs1 (by omega) (by omega)
        obtain ⟨s, hd, hm⟩ := atI_in (xs := [PyData.int 1000000000000000000000000000000, .int (-1000000000000000000000000000000), .int 10000000000000000000000000000000]) (i := q) q0 q1
        have ht : Tt s := by
          simp only [List.mem_cons, List.not_mem_nil, or_false] at hm
          rcases hm with rfl | rfl | rfl <;> exact .int _
        have m1 : mulOk (-1) 1000000000000000000000000000000 = true := by decide +kernel
        refine ⟨s, a2, b2, ht, ?_, hs2⟩
        simp [d__law_term, b__law_term, runBody, execSs, execS, evalE, evalT, evalEs, evalRs, evalAs, evalI, evalO, evalC, bind_ok, bind_ex, bind_no, settle, rd, Cell.rd, bltD, lenD, ofO, tk, asgC, two, rdTo, cmpD, ordD, binD, truthD, esc, retV, outsOf, setC, hasV, setD, Cell.isOwn, backTo1, idxD, callA, arCells, arCell, refsOf, putBack, size2, isiO, isX, e1, h4, h9, h11, e2, hd, sl, okTy, mthA, mthD, m1]
abbrev envA (c : Int) (s n t p k : Cell) : DEnv := [.pure (.int c), s, n, t, p, k]
theorem atom_terms (k : Nat) (c pl a b : Int) (nm : Cell) (hs : StOk a b) : ∃ ts a' b' c5, (∀ t ∈ ts, Tt t) ∧ ts.length ≤ 8 ∧ StOk a' b' ∧ nin c5 ∧ execS (CD m (k + 2)) (glOf cs) m l2__law_atom (envA c (.own (stD a b)) nm (.own (.list [])) (.pure (.int pl)) .emp) = .ok .nx (envA c (.own (stD a' b')) nm (.own (.list ts)) (.pure (.int pl)) c5) := by
  obtain ⟨n, a1, b1, e1, hs1, n0, n1⟩ := pick (m := m) (k + 1) a b 9 hs (by omega) (by omega)
  have hok : rngOk n = true := rngOk_in (by omega) (by omega)
  obtain ⟨δ, h1, h2⟩ := forLoop_ind (body := forBody (.nm 5) (execSs (CD m (k + 2)) (glOf cs) m w1__law_atom)) (fun i δ => ∃ ts a b c5, (∀ t ∈ ts, Tt t) ∧ ts.length = i ∧ StOk a b ∧ nin c5 ∧ δ = envA c (.own (stD a b)) nm (.own (.list ts)) (.pure (.int pl)) c5) (rngD 0 n) 0 (envA c (.own (stD a1 b1)) nm (.own (.list [])) (.pure (.int pl)) .emp) ⟨[], a1, b1, .emp, fun _ h => (by cases h), rfl, hs1, fun _ h => (by cases h), rfl⟩ (by
    rintro j d δ hj ⟨ts, a, b, c5, ht, hl, hs, n5, rfl⟩
    have hjl := (List.getElem?_eq_some_iff.mp hj).1
    rw [rng_len] at hjl
    have zl : ts.length < 16777216 := by omega
    by_cases p0 : pl = 0
    · subst p0
      obtain ⟨q, a3, b3, e3, hs3, q0, q1⟩ := pick (m := m) (k + 1) a b 4 hs (by omega) (by omega)
      obtain ⟨v, hd, hm⟩ := atI_in (xs := [PyData.int 0, .str "a", .str "X", .str "Y1"]) (i := q) q0 q1
      have hv : Tt v := by
        simp only [List.mem_cons, List.not_mem_nil, or_false] at hm
        rcases hm with rfl | rfl | rfl | rfl <;> first | exact .int _ | exact .str _ (by decide +kernel)
      refine ⟨envA c (.own (stD a3 b3)) nm (.own (.list (ts ++ [v]))) (.pure (.int 0)) (.pure d), .inl ?_, ts ++ [v], a3, b3, _, fun t hm => ?_, by rw [List.length_append, hl]; simp, hs3, fun _ h => (by cases h), rfl⟩
      · cases c5 with
        | inp d => exact absurd rfl (n5 d)
        | _ => simp [forBody, asgD, w1__law_atom, runBody, execSs, execS, evalE, evalT, evalEs, evalRs, evalAs, evalI, evalO, evalC, bind_ok, bind_ex, bind_no, settle, rd, Cell.rd, bltD, lenD, ofO, tk, asgC, two, rdTo, cmpD, ordD, binD, truthD, esc, retV, outsOf, setC, hasV, setD, Cell.isOwn, backTo1, idxD, callA, arCells, arCell, refsOf, putBack, size2, isiO, isX, e3, eqD, bi, PyData.eqv, sl, hd, okTy, mthA, mthD, zl]
      · rcases List.mem_append.mp hm with h | h
        · exact ht t h
        · rw [List.mem_singleton.mp h]; exact hv
    · have p0b : (pl == 0) = false := by simpa using p0
      by_cases p1 : pl = 1
      · subst p1
        obtain ⟨q, a3, b3, e3, hs3, q0, q1⟩ := pick (m := m) (k + 1) a b 4 hs (by omega) (by omega)
        obtain ⟨v, hd, hm⟩ := atI_in (xs := [PyData.int 0, .str "a", .int (-7), .str "b"]) (i := q) q0 q1
        have hv : Tt v := by
          simp only [List.mem_cons, List.not_mem_nil, or_false] at hm
          rcases hm with rfl | rfl | rfl | rfl <;> first | exact .int _ | exact .str _ (by decide +kernel)
        refine ⟨envA c (.own (stD a3 b3)) nm (.own (.list (ts ++ [v]))) (.pure (.int 1)) (.pure d), .inl ?_, ts ++ [v], a3, b3, _, fun t hm => ?_, by rw [List.length_append, hl]; simp, hs3, fun _ h => (by cases h), rfl⟩
        · cases c5 with
          | inp d => exact absurd rfl (n5 d)
          | _ => simp [forBody, asgD, w1__law_atom, runBody, execSs, execS, evalE, evalT, evalEs, evalRs, evalAs, evalI, evalO, evalC, bind_ok, bind_ex, bind_no, settle, rd, Cell.rd, bltD, lenD, ofO, tk, asgC, two, rdTo, cmpD, ordD, binD, truthD, esc, retV, outsOf, setC, hasV, setD, Cell.isOwn, backTo1, idxD, callA, arCells, arCell, refsOf, putBack, size2, isiO, isX, e3, eqD, bi, PyData.eqv, sl, hd, okTy, mthA, mthD, zl]
        · rcases List.mem_append.mp hm with h | h
          · exact ht t h
          · rw [List.mem_singleton.mp h]; exact hv
      · have p1b : (pl == 1) = false := by simpa using p1
        obtain ⟨v, a3, b3, hv, e3, hs3⟩ := term_ok (m := m) k a b hs
        refine ⟨envA c (.own (stD a3 b3)) nm (.own (.list (ts ++ [v]))) (.pure (.int pl)) (.pure d), .inl ?_, ts ++ [v], a3, b3, _, fun t hm => ?_, by rw [List.length_append, hl]; simp, hs3, fun _ h => (by cases h), rfl⟩
        · cases c5 with
          | inp d => exact absurd rfl (n5 d)
          | _ => simp [forBody, asgD, w1__law_atom, runBody, execSs, execS, evalE, evalT, evalEs, evalRs, evalAs, evalI, evalO, evalC, bind_ok, bind_ex, bind_no, settle, rd, Cell.rd, bltD, lenD, ofO, tk, asgC, two, rdTo, cmpD, ordD, binD, truthD, esc, retV, outsOf, setC, hasV, setD, Cell.isOwn, backTo1, idxD, callA, arCells, arCell, refsOf, putBack, size2, isiO, isX, e3, eqD, bi, PyData.eqv, p0b, p1b, sl, okTy, mthA, mthD, zl]
        · rcases List.mem_append.mp hm with h | h
          · exact ht t h
          · rw [List.mem_singleton.mp h]; exact hv)
  obtain ⟨ts, a2, b2, c5, ht, hl, hs2, n5, rfl⟩ := h2
  rw [rng_len] at hl
  refine ⟨ts, a2, b2, c5, ht, by omega, hs2, n5, ?_⟩
  unfold l2__law_atom
  simp [runBody, execSs, execS, evalE, evalT, evalEs, evalRs, evalAs, evalI, evalO, evalC, bind_ok, bind_ex, bind_no, settle, rd, Cell.rd, bltD, lenD, ofO, tk, asgC, two, rdTo, cmpD, ordD, binD, truthD, esc, retV, outsOf, setC, hasV, setD, Cell.isOwn, backTo1, idxD, callA, arCells, arCell, refsOf, putBack, size2, isiO, isX, e1, hok]
  exact h1
theorem law_atom (k : Nat) (c : Int) : ∃ d o, At d ∧ CD m (k + 3) "_law_atom" [.pure (.int c)] = .ret (.pure d) o := by
  obtain ⟨a0, b0, e0, hs0⟩ := state (m := m) (k + 1) c
  obtain ⟨p, a1, b1, e1, hs1, p0, p1⟩ := pick (m := m) (k + 1) a0 b0 10 hs0 (by omega) (by omega)
  obtain ⟨s, hd, hm⟩ := atI_in (xs := [PyData.str "p", .str "q1", .str "is", .str "", .str "P", .str "p_", .str "not", .str "sum", .str "a23456789012", .str "a234567890123"]) (i := p) p0 p1
  obtain ⟨z, rfl, hz⟩ : ∃ z, s = .str z ∧ z.cps.toList.length ≤ 1000 := by
    simp only [List.mem_cons, List.not_mem_nil, or_false] at hm
    rcases hm with rfl | rfl | rfl | rfl | rfl | rfl | rfl | rfl | rfl | rfl <;> exact ⟨_, rfl, by decide +kernel⟩
  obtain ⟨q, a2, b2, e2, hs2, q0, q1⟩ := pick (m := m) (k + 1) a1 b1 2 hs1 (by omega) (by omega)
  obtain ⟨pl, a3, b3, e3, hs3, l0, l1⟩ := pick (m := m) (k + 1) a2 b2 3 hs2 (by omega) (by omega)
  rw [cd__law_atom]
  by_cases h0 : q = 0
  · subst h0
    obtain ⟨ts, a4, b4, c5, ht, hl, hs4, n5, el⟩ := atom_terms (m := m) k c pl a3 b3 (.pure (.str "p")) hs3
    have zt : ts.length ≤ 16777216 := by omega
    refine ⟨_, [.pure (.int c)], .mk "p" ts (by decide +kernel) hl ht, ?_⟩
    cases c5 with
    | inp d => exact absurd rfl (n5 d)
    | _ => simp [d__law_atom, b__law_atom, runBody, execSs, execS, evalE, evalT, evalEs, evalRs, evalAs, evalI, evalO, evalC, bind_ok, bind_ex, bind_no, settle, rd, Cell.rd, bltD, lenD, ofO, tk, asgC, two, rdTo, cmpD, ordD, binD, truthD, esc, retV, outsOf, setC, hasV, setD, Cell.isOwn, backTo1, idxD, callA, arCells, arCell, refsOf, putBack, size2, isiO, isX, e0, e1, hd, e2, e3, el, eqD, bi, PyData.eqv, sl, zt]
  · have h0b : (q == 0) = false := by simpa using h0
    obtain ⟨ts, a4, b4, c5, ht, hl, hs4, n5, el⟩ := atom_terms (m := m) k c pl a3 b3 (.pure (.str z)) hs3
    have zt : ts.length ≤ 16777216 := by omega
    refine ⟨_, [.pure (.int c)], .mk z ts hz hl ht, ?_⟩
    cases c5 with
    | inp d => exact absurd rfl (n5 d)
    | _ => simp [d__law_atom, b__law_atom, runBody, execSs, execS, evalE, evalT, evalEs, evalRs, evalAs, evalI, evalO, evalC, bind_ok, bind_ex, bind_no, settle, rd, Cell.rd, bltD, lenD, ofO, tk, asgC, two, rdTo, cmpD, ordD, binD, truthD, esc, retV, outsOf, setC, hasV, setD, Cell.isOwn, backTo1, idxD, callA, arCells, arCell, refsOf, putBack, size2, isiO, isX, e0, e1, hd, e2, e3, el, eqD, bi, PyData.eqv, h0b, sl, zt]
end
end DE.K03

namespace DE.K03
open PySem PySem.Spec PyProof.Rows L2 DE.Lib
section
variable {m : Nat}
theorem lnamed (k : Nat) (z : Str) (hz : z.cps.toList.length ≤ 1000) : CD m (k + 2) "_law_named" [.pure (.str z)] = .ret (.pure (.bool (nameS z))) [.pure (.str z)] := by
  have e := named_str (m := m) (gl := glOf cs) tb__law_wordy tb__law_named k z.cps.toList hz
  rw [str_back] at e
  exact e
theorem lvalued (k : Nat) (d : D) (h : Tt d) : CD m (k + 3) "_law_valued" [.pure d] = .ret (.pure (.bool (valB d))) [.pure d] := by
  cases h with
  | int n =>
    rw [cd__law_valued]
    by_cases h0 : n < 0
    · by_cases h1 : -1000000000000000000000000000000 < n
      · have h2 : n < 1000000000000000000000000000000 := by omega
        have h3 : -n < 1000000000000000000000000000000 := by omega
        simp [d__law_valued, b__law_valued, runBody, execSs, execS, evalE, evalT, evalEs, evalRs, evalAs, evalI, evalO, evalC, bind_ok, bind_ex, bind_no, settle, rd, Cell.rd, bltD, lenD, ofO, tk, asgC, two, rdTo, cmpD, ordD, binD, truthD, esc, retV, outsOf, setC, hasV, setD, Cell.isOwn, backTo1, idxD, callA, arCells, arCell, refsOf, putBack, size2, isiO, isX, isiD, valB, h0, h1, h2, h3]
      · have h3 : ¬ -n < 1000000000000000000000000000000 := by omega
        simp [d__law_valued, b__law_valued, runBody, execSs, execS, evalE, evalT, evalEs, evalRs, evalAs, evalI, evalO, evalC, bind_ok, bind_ex, bind_no, settle, rd, Cell.rd, bltD, lenD, ofO, tk, asgC, two, rdTo, cmpD, ordD, binD, truthD, esc, retV, outsOf, setC, hasV, setD, Cell.isOwn, backTo1, idxD, callA, arCells, arCell, refsOf, putBack, size2, isiO, isX, isiD, valB, h0, h1, h3]
    · by_cases h2 : n < 1000000000000000000000000000000
      · have h1 : -1000000000000000000000000000000 < n := by omega
        simp [d__law_valued, b__law_valued, runBody, execSs, execS, evalE, evalT, evalEs, evalRs, evalAs, evalI, evalO, evalC, bind_ok, bind_ex, bind_no, settle, rd, Cell.rd, bltD, lenD, ofO, tk, asgC, two, rdTo, cmpD, ordD, binD, truthD, esc, retV, outsOf, setC, hasV, setD, Cell.isOwn, backTo1, idxD, callA, arCells, arCell, refsOf, putBack, size2, isiO, isX, isiD, valB, h0, h1, h2]
      · simp [d__law_valued, b__law_valued, runBody, execSs, execS, evalE, evalT, evalEs, evalRs, evalAs, evalI, evalO, evalC, bind_ok, bind_ex, bind_no, settle, rd, Cell.rd, bltD, lenD, ofO, tk, asgC, two, rdTo, cmpD, ordD, binD, truthD, esc, retV, outsOf, setC, hasV, setD, Cell.isOwn, backTo1, idxD, callA, arCells, arCell, refsOf, putBack, size2, isiO, isX, isiD, valB, h0, h2]
  | str z hz =>
    have e := lnamed (m := m) k z hz
    rw [cd__law_valued]
    simp [d__law_valued, b__law_valued, runBody, execSs, execS, evalE, evalT, evalEs, evalRs, evalAs, evalI, evalO, evalC, bind_ok, bind_ex, bind_no, settle, rd, Cell.rd, bltD, lenD, ofO, tk, asgC, two, rdTo, cmpD, ordD, binD, truthD, esc, retV, outsOf, setC, hasV, setD, Cell.isOwn, backTo1, idxD, callA, arCells, arCell, refsOf, putBack, size2, isiO, isX, isiD, valB, e]
theorem ltermed (k : Nat) (d : D) (h : Tt d) : CD m (k + 3) "_law_termed" [.pure d] = .ret (.pure (.bool (termB d))) [.pure d] := by
  cases h with
  | int n =>
    rw [cd__law_termed]
    by_cases h0 : n < 0
    · by_cases h1 : -1000000000000000000000000000000 < n
      · have h2 : n < 1000000000000000000000000000000 := by omega
        have h3 : -n < 1000000000000000000000000000000 := by omega
        simp [d__law_termed, b__law_termed, runBody, execSs, execS, evalE, evalT, evalEs, evalRs, evalAs, evalI, evalO, evalC, bind_ok, bind_ex, bind_no, settle, rd, Cell.rd, bltD, lenD, ofO, tk, asgC, two, rdTo, cmpD, ordD, binD, truthD, esc, retV, outsOf, setC, hasV, setD, Cell.isOwn, backTo1, idxD, callA, arCells, arCell, refsOf, putBack, size2, isiO, isX, isiD, termB, varB, valB, h0, h1, h2, h3]
      · have h3 : ¬ -n < 1000000000000000000000000000000 := by omega
        simp [d__law_termed, b__law_termed, runBody, execSs, execS, evalE, evalT, evalEs, evalRs, evalAs, evalI, evalO, evalC, bind_ok, bind_ex, bind_no, settle, rd, Cell.rd, bltD, lenD, ofO, tk, asgC, two, rdTo, cmpD, ordD, binD, truthD, esc, retV, outsOf, setC, hasV, setD, Cell.isOwn, backTo1, idxD, callA, arCells, arCell, refsOf, putBack, size2, isiO, isX, isiD, termB, varB, valB, h0, h1, h3]
    · by_cases h2 : n < 1000000000000000000000000000000
      · have h1 : -1000000000000000000000000000000 < n := by omega
        simp [d__law_termed, b__law_termed, runBody, execSs, execS, evalE, evalT, evalEs, evalRs, evalAs, evalI, evalO, evalC, bind_ok, bind_ex, bind_no, settle, rd, Cell.rd, bltD, lenD, ofO, tk, asgC, two, rdTo, cmpD, ordD, binD, truthD, esc, retV, outsOf, setC, hasV, setD, Cell.isOwn, backTo1, idxD, callA, arCells, arCell, refsOf, putBack, size2, isiO, isX, isiD, termB, varB, valB, h0, h1, h2]
      · simp [d__law_termed, b__law_termed, runBody, execSs, execS, evalE, evalT, evalEs, evalRs, evalAs, evalI, evalO, evalC, bind_ok, bind_ex, bind_no, settle, rd, Cell.rd, bltD, lenD, ofO, tk, asgC, two, rdTo, cmpD, ordD, binD, truthD, esc, retV, outsOf, setC, hasV, setD, Cell.isOwn, backTo1, idxD, callA, arCells, arCell, refsOf, putBack, size2, isiO, isX, isiD, termB, varB, valB, h0, h2]
  | str z hz =>
    have e := lnamed (m := m) k z hz
    have e2 : CD m (k + 2) "_law_wordy" [.pure (.str z), .pure (.str sGR)] = .ret (.pure (.bool (wlL sGR z.cps.toList))) [.pure (.str z), .pure (.str sGR)] := by
      have q := wordy_str (m := m) (gl := glOf cs) tb__law_wordy (k + 1) z.cps.toList sGR hz
      rw [str_back] at q
      exact q
    rw [cd__law_termed]
    cases q : nameS z
    · rw [q] at e
      simp [d__law_termed, b__law_termed, runBody, execSs, execS, evalE, evalT, evalEs, evalRs, evalAs, evalI, evalO, evalC, bind_ok, bind_ex, bind_no, settle, rd, Cell.rd, bltD, lenD, ofO, tk, asgC, two, rdTo, cmpD, ordD, binD, truthD, esc, retV, outsOf, setC, hasV, setD, Cell.isOwn, backTo1, idxD, callA, arCells, arCell, refsOf, putBack, size2, isiO, isX, isiD, termB, varB, valB, q, e, e2]
    · rw [q] at e
      simp [d__law_termed, b__law_termed, runBody, execSs, execS, evalE, evalT, evalEs, evalRs, evalAs, evalI, evalO, evalC, bind_ok, bind_ex, bind_no, settle, rd, Cell.rd, bltD, lenD, ofO, tk, asgC, two, rdTo, cmpD, ordD, binD, truthD, esc, retV, outsOf, setC, hasV, setD, Cell.isOwn, backTo1, idxD, callA, arCells, arCell, refsOf, putBack, size2, isiO, isX, isiD, termB, varB, valB, q, e]
theorem pb1 (d : D) (o : List Cell) (δ : DEnv) : putBack [Ar.d d] o δ = δ := by cases o <;> simp [putBack]
theorem pb2 (d e : D) (o : List Cell) (δ : DEnv) : putBack [Ar.d d, Ar.d e] o δ = δ := by
  cases o with
  | nil => simp [putBack]
  | cons a r => cases r <;> simp [putBack]
theorem atoms_loop (k : Nat) (S : Cell) (cells : List Int) (hc : cells.length ≤ 63) : ∃ (as : List D) (c2 : Cell), (∀ d ∈ as, At d) ∧ nin c2 ∧ ∀ pre : List D, pre.length = 5 -> forLoop (forBody (.nm 2) (execSs (CD m (k + 3)) (glOf cs) m w1_law)) (cells.map .int) [S, .own (.list pre), .emp, .emp, .emp, .emp, .emp, .emp] = .ok .nx [S, .own (.list (pre ++ as)), c2, .emp, .emp, .emp, .emp, .emp] := by
  have g : ∃ f : Int -> D × List Cell, ∀ c, At (f c).1 ∧ CD m (k + 3) "_law_atom" [.pure (.int c)] = .ret (.pure (f c).1) (f c).2 := Classical.skolem.mp fun c => (by
    obtain ⟨d, o, h1, h2⟩ := law_atom (m := m) k c
    exact ⟨(d, o), h1, h2⟩ : ∃ p : D × List Cell, At p.1 ∧ CD m (k + 3) "_law_atom" [.pure (.int c)] = .ret (.pure p.1) p.2)
  obtain ⟨f, hf⟩ := g
  have key : ∀ (cells : List Int) (pre : List D) (c2 : Cell), nin c2 -> pre.length + cells.length ≤ 1000 -> ∃ c2', nin c2' ∧ (c2' = match cells.getLast? with
      | some c => .pure (.int c)
      | none => c2) ∧ forLoop (forBody (.nm 2) (execSs (CD m (k + 3)) (glOf cs) m w1_law)) (cells.map .int) [S, .own (.list pre), c2, .emp, .emp, .emp, .emp, .emp] = .ok .nx [S, .own (.list (pre ++ cells.map fun c => (f c).1)), c2', .emp, .emp, .emp, .emp, .emp] := by
    intro cells
    induction cells with
    | nil => intro pre c2 n2 _; exact ⟨c2, n2, rfl, by simp [forLoop]⟩
    | cons c r ih =>
      intro pre c2 n2 hl
      rw [List.length_cons] at hl
      have zl : pre.length < 16777216 := by omega
      obtain ⟨c2', n2', e2, e⟩ := ih (pre ++ [(f c).1]) (.pure (.int c)) (fun d e => by cases e) (by rw [List.length_append]; simp; omega)
      refine ⟨c2', n2', ?_, ?_⟩
      · rw [e2]
        cases r with
        | nil => rfl
        | cons c' r' =>
          rw [List.getLast?_cons_cons]
          cases hq : (c' :: r').getLast? with
          | none => simp at hq
          | some x => rfl
      · have one : forBody (.nm 2) (execSs (CD m (k + 3)) (glOf cs) m w1_law) (.int c) [S, .own (.list pre), c2, .emp, .emp, .emp, .emp, .emp] = .ok .nx [S, .own (.list (pre ++ [(f c).1])), .pure (.int c), .emp, .emp, .emp, .emp, .emp] := by
          cases c2 with
          | inp d => exact absurd rfl (n2 d)
          | _ => simp [pb1, forBody, asgD, w1_law, runBody, execSs, execS, evalE, evalT, evalEs, evalRs, evalAs, evalI, evalO, evalC, bind_ok, bind_ex, bind_no, settle, rd, Cell.rd, bltD, lenD, ofO, tk, asgC, two, rdTo, cmpD, ordD, binD, truthD, esc, retV, outsOf, setC, hasV, setD, Cell.isOwn, backTo1, idxD, callA, arCells, arCell, refsOf, size2, isiO, isX, (hf c).2, okTy, mthA, mthD, sl, zl]
        rw [List.map_cons]
        simp only [forLoop, one, e]
        simp
  refine ⟨cells.map fun c => (f c).1, match cells.getLast? with
      | some c => .pure (.int c)
      | none => .emp, fun d hd => ?_, ?_, fun pre hp => ?_⟩
  · obtain ⟨c, _, rfl⟩ := List.mem_map.mp hd
    exact (hf c).1
  · cases cells.getLast? with
    | none => exact fun d e => by cases e
    | some c => exact fun d e => by cases e
  · obtain ⟨c2', _, e2, e⟩ := key cells pre .emp (fun d e => by cases e) (by omega)
    rw [← e2]
    exact e
theorem turn_ok (k : Nat) (S A c2 c3 c4 c5 c6 : Cell) (n3 : nin c3) (n4 : nin c4) (n5 : nin c5) (n6 : nin c6) (z : Str) (ts : List D) (hz : z.cps.toList.length ≤ 1000) (hl : ts.length ≤ 8) (ht : ∀ t ∈ ts, Tt t) :
    forBody (.nm 3) (execSs (CD m (k + 5)) (glOf cs) m w5_law) (.tuple [.str z, .tuple ts]) [S, A, c2, c3, c4, c5, c6, .emp] = .ok .nx [S, A, c2, .pure (.tuple [.str z, .tuple ts]), .pure (.bool (pairB z ts)), .pure (.bool (okB 0 z ts)), .pure (.bool (okB 1 z ts)), .emp] := by
  have hs := sl
  obtain ⟨o0, w0⟩ := word_ok (m := m) k 0 (.inl rfl) z ts hz ht
  obtain ⟨o1, w1⟩ := word_ok (m := m) k 1 (.inr rfl) z ts hz ht
  have en := lnamed (m := m) (k + 3) z hz
  have g3 : ∀ (c4 c5 c6 : Cell), evalE (CD m (k + 5)) (glOf cs) c3_law [S, A, c2, .pure (.tuple [.str z, .tuple ts]), c4, c5, c6, .emp] = .ok (.own (.list (ts.map fun t => .bool (termB t)))) [S, A, c2, .pure (.tuple [.str z, .tuple ts]), c4, c5, c6, .emp] := fun c4 c5 c6 => by
    refine lc_eval (xs := ts) (g := fun d => d) (f := fun t => .bool (termB t)) (δ1 := [S, A, c2, .pure (.tuple [.str z, .tuple ts]), c4, c5, c6, .emp]) ?_ (by rfl) (fun x hx => ?_) (by omega) (by rfl)
    · simp [runBody, execSs, execS, evalE, evalT, evalEs, evalRs, evalAs, evalI, evalO, evalC, bind_ok, bind_ex, bind_no, settle, rd, Cell.rd, bltD, lenD, ofO, tk, asgC, two, rdTo, cmpD, ordD, binD, truthD, esc, retV, outsOf, setC, hasV, setD, Cell.isOwn, backTo1, idxD, callA, arCells, arCell, refsOf, putBack, size2, isiO, isX, at2, itemsD]
    · have e := ltermed (m := m) (k + 2) x (ht x hx)
      simp [runBody, execSs, execS, evalE, evalT, evalEs, evalRs, evalAs, evalI, evalO, evalC, bind_ok, bind_ex, bind_no, settle, rd, Cell.rd, bltD, lenD, ofO, tk, asgC, two, rdTo, cmpD, ordD, binD, truthD, esc, retV, outsOf, setC, hasV, setD, Cell.isOwn, backTo1, idxD, callA, arCells, arCell, refsOf, putBack, size2, isiO, isX, asgD, wipeE, e]
  have g4 : ∀ (c4 c5 c6 : Cell), evalE (CD m (k + 5)) (glOf cs) c4_law [S, A, c2, .pure (.tuple [.str z, .tuple ts]), c4, c5, c6, .emp] = .ok (.own (.list (ts.map fun t => .bool (valB t)))) [S, A, c2, .pure (.tuple [.str z, .tuple ts]), c4, c5, c6, .emp] := fun c4 c5 c6 => by
    refine lc_eval (xs := ts) (g := fun d => d) (f := fun t => .bool (valB t)) (δ1 := [S, A, c2, .pure (.tuple [.str z, .tuple ts]), c4, c5, c6, .emp]) ?_ (by rfl) (fun x hx => ?_) (by omega) (by rfl)
    · simp [runBody, execSs, execS, evalE, evalT, evalEs, evalRs, evalAs, evalI, evalO, evalC, bind_ok, bind_ex, bind_no, settle, rd, Cell.rd, bltD, lenD, ofO, tk, asgC, two, rdTo, cmpD, ordD, binD, truthD, esc, retV, outsOf, setC, hasV, setD, Cell.isOwn, backTo1, idxD, callA, arCells, arCell, refsOf, putBack, size2, isiO, isX, at2, itemsD]
    · have e := lvalued (m := m) (k + 2) x (ht x hx)
      simp [runBody, execSs, execS, evalE, evalT, evalEs, evalRs, evalAs, evalI, evalO, evalC, bind_ok, bind_ex, bind_no, settle, rd, Cell.rd, bltD, lenD, ofO, tk, asgC, two, rdTo, cmpD, ordD, binD, truthD, esc, retV, outsOf, setC, hasV, setD, Cell.isOwn, backTo1, idxD, callA, arCells, arCell, refsOf, putBack, size2, isiO, isX, asgD, wipeE, e]
  have a3 : asgD (.nm 3) (.tuple [.str z, .tuple ts]) [S, A, c2, c3, c4, c5, c6, .emp] = some [S, A, c2, .pure (.tuple [.str z, .tuple ts]), c4, c5, c6, .emp] := by
    cases c3 with
    | inp d => exact absurd rfl (n3 d)
    | _ => simp [asgD]
  have b3 := boolsOf_map termB ts
  have b4 := boolsOf_map valB ts
  have q3 := all_map termB ts
  have q4 := all_map valB ts
  have s1 : eqOk (.str "told") = true := eqOk_str _
  have s2 : eqOk (.str "atom") = true := eqOk_str _
  have v0 : okB 0 z ts = (pairB z ts && ts.all termB) := rfl
  have v1 : okB 1 z ts = (pairB z ts && ts.all valB) := rfl
  have nm : (nameS z && decide (ts.length < 7)) = pairB z ts := rfl
  have ll : ((ts.length : Int) < 7) ↔ ts.length < 7 := by omega
  unfold forBody
  rw [a3]
  have step4 : execS (CD m (k + 5)) (glOf cs) m (.asg 4 (.an (.call "_law_named" (.val (.idx (.slot 3) (.con (.int 0))) .nil)) (.cmp .Lt (.blt .len (.cons (.idx (.slot 3) (.con (.int 1))) .nil)) (.con (.int 7))))) [S, A, c2, .pure (.tuple [.str z, .tuple ts]), c4, c5, c6, .emp] = .ok .nx [S, A, c2, .pure (.tuple [.str z, .tuple ts]), .pure (.bool (pairB z ts)), c5, c6, .emp] := by
    unfold pairB
    cases qn : nameS z
    · rw [qn] at en
      cases c4 with
      | inp d => exact absurd rfl (n4 d)
      | _ => simp [runBody, execSs, execS, evalE, evalT, evalEs, evalRs, evalAs, evalI, evalO, evalC, bind_ok, bind_ex, bind_no, settle, rd, Cell.rd, bltD, lenD, ofO, tk, asgC, two, rdTo, cmpD, ordD, binD, truthD, esc, retV, outsOf, setC, hasV, setD, Cell.isOwn, backTo1, idxD, callA, arCells, arCell, refsOf, putBack, size2, isiO, isX, at2, en]
    · rw [qn] at en
      cases c4 with
      | inp d => exact absurd rfl (n4 d)
      | _ => simp [runBody, execSs, execS, evalE, evalT, evalEs, evalRs, evalAs, evalI, evalO, evalC, bind_ok, bind_ex, bind_no, settle, rd, Cell.rd, bltD, lenD, ofO, tk, asgC, two, rdTo, cmpD, ordD, binD, truthD, esc, retV, outsOf, setC, hasV, setD, Cell.isOwn, backTo1, idxD, callA, arCells, arCell, refsOf, putBack, size2, isiO, isX, at2, en, ll]
  have step5 : execS (CD m (k + 5)) (glOf cs) m (.asg 5 (.an (.slot 4) (.blt .all (.cons c3_law .nil)))) [S, A, c2, .pure (.tuple [.str z, .tuple ts]), .pure (.bool (pairB z ts)), c5, c6, .emp] = .ok .nx [S, A, c2, .pure (.tuple [.str z, .tuple ts]), .pure (.bool (pairB z ts)), .pure (.bool (okB 0 z ts)), c6, .emp] := by
    rw [v0]
    cases qp : pairB z ts
    · cases c5 with
      | inp d => exact absurd rfl (n5 d)
      | _ => simp [runBody, execSs, execS, evalE, evalT, evalEs, evalRs, evalAs, evalI, evalO, evalC, bind_ok, bind_ex, bind_no, settle, rd, Cell.rd, bltD, lenD, ofO, tk, asgC, two, rdTo, cmpD, ordD, binD, truthD, esc, retV, outsOf, setC, hasV, setD, Cell.isOwn, backTo1, idxD, callA, arCells, arCell, refsOf, putBack, size2, isiO, isX]
    · cases c5 with
      | inp d => exact absurd rfl (n5 d)
      | _ => simp [runBody, execSs, execS, evalE, evalT, evalEs, evalRs, evalAs, evalI, evalO, evalC, bind_ok, bind_ex, bind_no, settle, rd, Cell.rd, bltD, lenD, ofO, tk, asgC, two, rdTo, cmpD, ordD, binD, truthD, esc, retV, outsOf, setC, hasV, setD, Cell.isOwn, backTo1, idxD, callA, arCells, arCell, refsOf, putBack, size2, isiO, isX, g3, b3, q3]
  have step6 : execS (CD m (k + 5)) (glOf cs) m (.asg 6 (.an (.slot 4) (.blt .all (.cons c4_law .nil)))) [S, A, c2, .pure (.tuple [.str z, .tuple ts]), .pure (.bool (pairB z ts)), .pure (.bool (okB 0 z ts)), c6, .emp] = .ok .nx [S, A, c2, .pure (.tuple [.str z, .tuple ts]), .pure (.bool (pairB z ts)), .pure (.bool (okB 0 z ts)), .pure (.bool (okB 1 z ts)), .emp] := by
    rw [v1]
    cases qp : pairB z ts
    · cases c6 with
      | inp d => exact absurd rfl (n6 d)
      | _ => simp [runBody, execSs, execS, evalE, evalT, evalEs, evalRs, evalAs, evalI, evalO, evalC, bind_ok, bind_ex, bind_no, settle, rd, Cell.rd, bltD, lenD, ofO, tk, asgC, two, rdTo, cmpD, ordD, binD, truthD, esc, retV, outsOf, setC, hasV, setD, Cell.isOwn, backTo1, idxD, callA, arCells, arCell, refsOf, putBack, size2, isiO, isX]
    · cases c6 with
      | inp d => exact absurd rfl (n6 d)
      | _ => simp [runBody, execSs, execS, evalE, evalT, evalEs, evalRs, evalAs, evalI, evalO, evalC, bind_ok, bind_ex, bind_no, settle, rd, Cell.rd, bltD, lenD, ofO, tk, asgC, two, rdTo, cmpD, ordD, binD, truthD, esc, retV, outsOf, setC, hasV, setD, Cell.isOwn, backTo1, idxD, callA, arCells, arCell, refsOf, putBack, size2, isiO, isX, g4, b4, q4]
  show execSs (CD m (k + 5)) (glOf cs) m w5_law _ = _
  unfold w5_law
  simp only [execSs, step4, step5, step6, bind_ok]
  cases r0 : okB 0 z ts <;> cases r1 : okB 1 z ts <;> rw [r0] at w0 <;> rw [r1] at w1 <;> simp [pb2, runBody, execSs, execS, evalE, evalT, evalEs, evalRs, evalAs, evalI, evalO, evalC, bind_ok, bind_ex, bind_no, settle, rd, Cell.rd, bltD, lenD, ofO, tk, asgC, two, rdTo, cmpD, ordD, binD, truthD, esc, retV, outsOf, setC, hasV, setD, Cell.isOwn, backTo1, idxD, callA, arCells, arCell, refsOf, size2, isiO, isX, w0, w1, eqD, s1, s2, PyData.eqv, sl, at2]
theorem main_loop (k : Nat) (S A : Cell) : ∀ (as : List D) (c2 c3 c4 c5 c6 : Cell), nin c3 -> nin c4 -> nin c5 -> nin c6 -> (∀ d ∈ as, At d) -> ∃ δ, forLoop (forBody (.nm 3) (execSs (CD m (k + 5)) (glOf cs) m w5_law)) as [S, A, c2, c3, c4, c5, c6, .emp] = .ok .nx (S :: δ)
  | [], c2, c3, c4, c5, c6, _, _, _, _, _ => ⟨[A, c2, c3, c4, c5, c6, .emp], by simp only [forLoop]⟩
  | d :: r, c2, c3, c4, c5, c6, n3, n4, n5, n6, h => by
    cases h d (List.mem_cons_self ..) with
    | mk z ts hz hl ht =>
      have e := turn_ok (m := m) k S A c2 c3 c4 c5 c6 n3 n4 n5 n6 z ts hz hl ht
      obtain ⟨δ, ih⟩ := main_loop k S A r c2 (.pure (.tuple [.str z, .tuple ts])) (.pure (.bool (pairB z ts))) (.pure (.bool (okB 0 z ts))) (.pure (.bool (okB 1 z ts))) (fun d e => by cases e) (fun d e => by cases e) (fun d e => by cases e) (fun d e => by cases e) fun x hx => h x (List.mem_cons_of_mem _ hx)
      exact ⟨δ, by simp only [forLoop, e]; exact ih⟩
abbrev pre5 : List D := [.tuple [.str "p", .tuple []], .tuple [.str "p", .tuple [.int 0, .int 1, .int 2, .int 3, .int 4, .str "a"]], .tuple [.str "p", .tuple [.int 0, .int 1, .int 2, .int 3, .int 4, .int 5, .int 6]], .tuple [.str "not", .tuple []], .tuple [.str "p", .tuple [.str "X"]]]
theorem pre_at : ∀ d ∈ pre5, At d := by
  intro d h
  simp only [List.mem_cons, List.not_mem_nil, or_false] at h
  rcases h with rfl | rfl | rfl | rfl | rfl
  · exact .mk _ _ (by decide +kernel) (by decide) fun t ht => (by cases ht)
  · refine .mk _ _ (by decide +kernel) (by decide) fun t ht => ?_
    simp only [List.mem_cons, List.not_mem_nil, or_false] at ht
    rcases ht with rfl | rfl | rfl | rfl | rfl | rfl <;> first | exact .int _ | exact .str _ (by decide +kernel)
  · refine .mk _ _ (by decide +kernel) (by decide) fun t ht => ?_
    simp only [List.mem_cons, List.not_mem_nil, or_false] at ht
    rcases ht with rfl | rfl | rfl | rfl | rfl | rfl | rfl <;> exact .int _
  · exact .mk _ _ (by decide +kernel) (by decide) fun t ht => (by cases ht)
  · refine .mk _ _ (by decide +kernel) (by decide) fun t ht => ?_
    simp only [List.mem_cons, List.not_mem_nil, or_false] at ht
    rw [ht]
    exact .str _ (by decide +kernel)
theorem law_ok (k : Nat) (cells : List Int) (hc : cells.length ≤ 63) : ∃ outs, CD m (k + 6) "law" [.pure (.list (cells.map .int))] = .ret (.pure (.bool true)) outs := by
  obtain ⟨as, c2, ha, n2, e1⟩ := atoms_loop (m := m) (k + 2) (.pure (.list (cells.map .int))) cells hc
  have e1 := e1 pre5 rfl
  have hall : ∀ d ∈ pre5 ++ as, At d := fun d hd => by
    rcases List.mem_append.mp hd with h | h
    · exact pre_at d h
    · exact ha d h
  obtain ⟨δ, e2⟩ := main_loop (m := m) k (.pure (.list (cells.map .int))) (.pure (.list (pre5 ++ as))) (pre5 ++ as) c2 .emp .emp .emp .emp (fun d e => by cases e) (fun d e => by cases e) (fun d e => by cases e) (fun d e => by cases e) hall
  have l2 : execS (CD m (k + 5)) (glOf cs) m l2_law [.pure (.list (cells.map .int)), .own (.list pre5), .emp, .emp, .emp, .emp, .emp, .emp] = .ok .nx [.pure (.list (cells.map .int)), .own (.list (pre5 ++ as)), c2, .emp, .emp, .emp, .emp, .emp] := by
    unfold l2_law
    simp [runBody, execSs, execS, evalE, evalT, evalEs, evalRs, evalAs, evalI, evalO, evalC, bind_ok, bind_ex, bind_no, settle, rd, Cell.rd, bltD, lenD, ofO, tk, asgC, two, rdTo, cmpD, ordD, binD, truthD, esc, retV, outsOf, setC, hasV, setD, Cell.isOwn, backTo1, idxD, callA, arCells, arCell, refsOf, putBack, size2, isiO, isX, itemsD]
    simpa using e1
  have l6 : execS (CD m (k + 5)) (glOf cs) m l6_law [.pure (.list (cells.map .int)), .own (.list (pre5 ++ as)), c2, .emp, .emp, .emp, .emp, .emp] = .ok .nx (.pure (.list (cells.map .int)) :: δ) := by
    unfold l6_law
    generalize pre5 ++ as = L at *
    simp [runBody, execSs, execS, evalE, evalT, evalEs, evalRs, evalAs, evalI, evalO, evalC, bind_ok, bind_ex, bind_no, settle, rd, Cell.rd, bltD, lenD, ofO, tk, asgC, two, rdTo, cmpD, ordD, binD, truthD, esc, retV, outsOf, setC, hasV, setD, Cell.isOwn, backTo1, idxD, callA, arCells, arCell, refsOf, putBack, size2, isiO, isX, itemsD]
    exact e2
  rw [cd_law]
  refine ⟨[.pure (.list (cells.map .int))], ?_⟩
  have first : execS (CD m (k + 5)) (glOf cs) m (.asg 1 (.lst (.cons (.tup (.cons (.con (.str "p")) (.cons (.tup .nil) .nil))) (.cons (.tup (.cons (.con (.str "p")) (.cons (.tup (.cons (.con (.int 0)) (.cons (.con (.int 1)) (.cons (.con (.int 2)) (.cons (.con (.int 3)) (.cons (.con (.int 4)) (.cons (.con (.str "a")) .nil))))))) .nil))) (.cons (.tup (.cons (.con (.str "p")) (.cons (.tup (.cons (.con (.int 0)) (.cons (.con (.int 1)) (.cons (.con (.int 2)) (.cons (.con (.int 3)) (.cons (.con (.int 4)) (.cons (.con (.int 5)) (.cons (.con (.int 6)) .nil)))))))) .nil))) (.cons (.tup (.cons (.con (.str "not")) (.cons (.tup .nil) .nil))) (.cons (.tup (.cons (.con (.str "p")) (.cons (.tup (.cons (.con (.str "X")) .nil)) .nil))) .nil))))))) [.pure (.list (cells.map .int)), .emp, .emp, .emp, .emp, .emp, .emp, .emp] = .ok .nx [.pure (.list (cells.map .int)), .own (.list pre5), .emp, .emp, .emp, .emp, .emp, .emp] := by
    simp [runBody, execSs, execS, evalE, evalT, evalEs, evalRs, evalAs, evalI, evalO, evalC, bind_ok, bind_ex, bind_no, settle, rd, Cell.rd, bltD, lenD, ofO, tk, asgC, two, rdTo, cmpD, ordD, binD, truthD, esc, retV, outsOf, setC, hasV, setD, Cell.isOwn, backTo1, idxD, callA, arCells, arCell, refsOf, putBack, size2, isiO, isX, sl]
  unfold runBody
  rw [if_pos (by rfl)]
  have body : execSs (CD m (k + 5)) (glOf cs) m d_law.body ([.pure (.list (cells.map .int))] ++ List.replicate (d_law.N.length - [Cell.pure (.list (cells.map .int))].length) .emp) = .ok (.rt (.pure (.bool true))) (.pure (.list (cells.map .int)) :: δ) := by
    show execSs (CD m (k + 5)) (glOf cs) m b_law [.pure (.list (cells.map .int)), .emp, .emp, .emp, .emp, .emp, .emp, .emp] = _
    unfold b_law
    simp only [execSs, first, l2, l6, bind_ok]
    simp [runBody, execSs, execS, evalE, evalT, evalEs, evalRs, evalAs, evalI, evalO, evalC, bind_ok, bind_ex, bind_no, settle, rd, Cell.rd, bltD, lenD, ofO, tk, asgC, two, rdTo, cmpD, ordD, binD, truthD, esc, retV, outsOf, setC, hasV, setD, Cell.isOwn, backTo1, idxD, callA, arCells, arCell, refsOf, putBack, size2, isiO, isX]
  rw [body]
  simp [outsOf, d_law]
end
end DE.K03
open PySem PySem.W PySem.Calls PyProof.Rows
theorem PySem.Challenge.cw_stayledger_k03_atoms_looked_at_holds : PySem.Challenge.rw_stayledger_k03_atoms_looked_at.Holds := by
  w_on; o_law
  refine HandSHeadRun.head_any (r := OpenLaw.row PySem.Challenge.rw_stayledger_k03_atoms_looked_at) (q := view (OpenLaw.row PySem.Challenge.rw_stayledger_k03_atoms_looked_at).prog [47]) (H := DE.K03.hk) (ob := DE.K03.ob) (M := 8000) (loose := DE.K03.loose) (d := HandSHeadRun.topDef (OpenLaw.row PySem.Challenge.rw_stayledger_k03_atoms_looked_at).prog 47) (kwd := []) DE.K03.ob_eq
    (by kernel_rfl) (fun s => by kernel_rfl) DE.K03.run (by kernel_rfl) (by kernel_rfl) (by kernel_rfl) (by rfl) (by first | assumption | decide +kernel) (by decide +kernel) ⟨rfl, rfl, rfl, rfl, rfl, by decide +kernel⟩ ?hw ?hc
  case hw => w_witness2
  case hc =>
    exact DE.law_walk (l := PySem.Challenge.rw_stayledger_k03_atoms_looked_at) (n := 63) (k := 100) (m := 1000000) (e := DE.K03.e_law) (x := "script") rfl (by decide) (by kernel_rfl) ⟨rfl, by decide, by decide⟩ DE.K03.oks (by simp [DE.K03.es]) DE.K03.tb_law rfl (by kernel_rfl) fun ns h _ => DE.K03.law_ok 94 ns h
