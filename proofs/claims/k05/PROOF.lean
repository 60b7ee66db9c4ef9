import PyProof.Rows.All
import Wide.All
import OpenK.AllK
import Wide.FinOn
import HandS.ForMost
import HandS.ForExc
import HandS.Flow
import HandS.Style
import HandS.IsInst
import HandS.Wide
import HandS.WideBits
import HandS.Conv
import HandS.Deep
import HandS.StrMore
import HandS.Codes
import HandS.TupAny
import HandS.SetFor
import HandS.HeadHook2
import HandS.HeadEnd
import HandS.Head2
import HandS.EndBits
import KE.DataEq
import KE.SortKeyed
import KE.SortData
import KE.KDictKeyed
import HandS.TupMul
import KE.DataCmp
import KE.KDictPairs
import KE.KDictSum
import HandS.ListItems
import HandS.SortOrd
import HandS.DictTup
import KE.SortKeyHeap
import HandS.ExcValue
import HandS.SortKw
import HandS.Rev
import PyProof.ListStr
import HandS.Zip
import HandS.WideMore
import KE.KStateDown
import Lean
import HandS.WordsExc
import HandS.Head0
import HandS.Head1
import HandS.HeadWalk
import PySem.Challenge.RW_stayledger_k05_whole_matching
set_option Elab.async false
set_option linter.all false
set_option maxRecDepth 100000
set_option maxHeartbeats 0
/-! DE1: data and how a heap bears them; slots; the state of a def over data. -/
namespace DE
open PySem PySem.Spec PyProof.Rows L2

abbrev D := PyData

def kD : Key -> D
  | .inl i => .int i
  | .inr x => .str x

/-- the object has no dict of its own -/
def NoDx (K : PySem.W.Frag) (F : Hp) (a : Addr) : Prop := (∃ o u, F a = some (.frz o u) ∧ o.dict = none) ∨ ∃ o, K.lookup a = some o ∧ o.dict = none
def SqU (K : PySem.W.Frag) (F : Hp) (a : Addr) (xs : List V) : Prop := SqT K F a xs ∧ NoDx K F a
mutual
inductive Dat (K : PySem.W.Frag) (F : Hp) : V -> D -> Prop
  | non : Dat K F .non .none
  | bl (b : Bool) : Dat K F (.bl b) (.bool b)
  | int (i : Int) : Dat K F (.int i) (.int i)
  | str (x : Str) : Dat K F (.str x) (.str x)
  | lst {a : Addr} {xs : List V} {ds : List D} : SqL K F a xs -> DatL K F xs ds -> Dat K F (.ref a) (.list ds)
  | tup {a : Addr} {xs : List V} {ds : List D} : SqU K F a xs -> DatL K F xs ds -> Dat K F (.ref a) (.tuple ds)
  | dct {a : Addr} {ks : List (Key × V)} {ds : List (D × D)} : F a = some (.dK ks) -> DatK K F ks ds -> Dat K F (.ref a) (.dict ds)
inductive DatL (K : PySem.W.Frag) (F : Hp) : List V -> List D -> Prop
  | nil : DatL K F [] []
  | cons {v : V} {vs : List V} {d : D} {ds : List D} : Dat K F v d -> DatL K F vs ds -> DatL K F (v :: vs) (d :: ds)
inductive DatK (K : PySem.W.Frag) (F : Hp) : List (Key × V) -> List (D × D) -> Prop
  | nil : DatK K F [] []
  | cons {k : Key} {v : V} {ks : List (Key × V)} {d : D} {ds : List (D × D)} : Dat K F v d -> DatK K F ks ds -> DatK K F ((k, v) :: ks) ((kD k, d) :: ds)
end

theorem Rd.mono {F F' : Hp} (e : Same F F') {a : Addr} {o : HO} (h : Rd F a o) : Rd F' a o := by
  rcases h with h | ⟨b, h⟩
  · exact .inl (e _ _ h)
  · exact .inr ⟨b, e _ _ h⟩
theorem sqL_mono {K : PySem.W.Frag} {F F' : Hp} (e : Same F F') {a : Addr} {xs : List V} (h : SqL K F a xs) : SqL K F' a xs := e.seq h
theorem sqT_mono {K : PySem.W.Frag} {F F' : Hp} (e : Same F F') {a : Addr} {xs : List V} (h : SqT K F a xs) : SqT K F' a xs := by
  rcases h with h | h
  · exact .inl (Rd.mono e h)
  · exact .inr h

theorem sqU_mono {K : PySem.W.Frag} {F F' : Hp} (e : Same F F') {a : Addr} {xs : List V} (h : SqU K F a xs) : SqU K F' a xs :=
  ⟨sqT_mono e h.1, h.2.elim (fun ⟨o, u, z, q⟩ => .inl ⟨o, u, e _ _ z, q⟩) fun z => .inr z⟩
section
variable {K : PySem.W.Frag} {F F' : Hp}
mutual
theorem Dat.mono (e : Same F F') : ∀ {v : V} {d : D}, Dat K F v d -> Dat K F' v d
  | _, _, .non => .non
  | _, _, .bl b => .bl b
  | _, _, .int i => .int i
  | _, _, .str x => .str x
  | _, _, .lst h t => .lst (sqL_mono e h) (DatL.mono e t)
  | _, _, .tup h t => .tup (sqU_mono e h) (DatL.mono e t)
  | _, _, .dct h t => .dct (e _ _ h) (DatK.mono e t)
theorem DatL.mono (e : Same F F') : ∀ {vs : List V} {ds : List D}, DatL K F vs ds -> DatL K F' vs ds
  | _, _, .nil => .nil
  | _, _, .cons h t => .cons (Dat.mono e h) (DatL.mono e t)
theorem DatK.mono (e : Same F F') : ∀ {ks : List (Key × V)} {ds : List (D × D)}, DatK K F ks ds -> DatK K F' ks ds
  | _, _, .nil => .nil
  | _, _, .cons h t => .cons (Dat.mono e h) (DatK.mono e t)
end
theorem DatL.length : ∀ {vs : List V} {ds : List D}, DatL K F vs ds -> vs.length = ds.length
  | _, _, .nil => rfl
  | _, _, .cons _ t => by rw [List.length_cons, List.length_cons, DatL.length t]
theorem DatL.append : ∀ {vs ws : List V} {ds es : List D}, DatL K F vs ds -> DatL K F ws es -> DatL K F (vs ++ ws) (ds ++ es)
  | _, _, _, _, .nil, s => s
  | _, _, _, _, .cons h t, s => .cons h (DatL.append t s)
theorem DatL.get : ∀ {vs : List V} {ds : List D} {i : Nat} {d : D}, DatL K F vs ds -> ds[i]? = some d -> ∃ v, vs[i]? = some v ∧ Dat K F v d
  | _, _, _, _, .nil, e => by simp at e
  | _, _, 0, _, .cons h _, e => by simp at e; subst e; exact ⟨_, rfl, h⟩
  | _, _, i + 1, d, .cons _ t, e => by
    obtain ⟨v, h1, h2⟩ := DatL.get (i := i) (d := d) t (by simpa using e)
    exact ⟨v, by simpa using h1, h2⟩
theorem DatL.getV : ∀ {vs : List V} {ds : List D} {i : Nat} {v : V}, DatL K F vs ds -> vs[i]? = some v -> ∃ d, ds[i]? = some d ∧ Dat K F v d
  | _, _, _, _, .nil, e => by simp at e
  | _, _, 0, _, .cons h _, e => by simp at e; subst e; exact ⟨_, rfl, h⟩
  | _, _, i + 1, v, .cons _ t, e => by
    obtain ⟨d, h1, h2⟩ := DatL.getV (i := i) (v := v) t (by simpa using e)
    exact ⟨d, by simpa using h1, h2⟩
theorem DatL.take : ∀ {vs : List V} {ds : List D} (n : Nat), DatL K F vs ds -> DatL K F (vs.take n) (ds.take n)
  | _, _, 0, _ => .nil
  | _, _, _ + 1, .nil => .nil
  | _, _, n + 1, .cons h t => .cons h (DatL.take n t)
theorem DatL.drop : ∀ {vs : List V} {ds : List D} (n : Nat), DatL K F vs ds -> DatL K F (vs.drop n) (ds.drop n)
  | _, _, 0, h => h
  | _, _, _ + 1, .nil => .nil
  | _, _, n + 1, .cons _ t => DatL.drop n t
theorem DatL.set {v : V} {d : D} (h : Dat K F v d) : ∀ {vs : List V} {ds : List D} (n : Nat), DatL K F vs ds -> DatL K F (vs.set n v) (ds.set n d)
  | _, _, _, .nil => .nil
  | _, _, 0, .cons _ t => .cons h t
  | _, _, n + 1, .cons q t => .cons q (DatL.set h n t)
theorem DatL.reverse : ∀ {vs : List V} {ds : List D}, DatL K F vs ds -> DatL K F vs.reverse ds.reverse
  | _, _, .nil => .nil
  | _, _, .cons h t => by rw [List.reverse_cons, List.reverse_cons]; exact (DatL.reverse t).append (.cons h .nil)
theorem DatL.ofInts : ∀ ns : List Int, DatL K F (ns.map V.int) (ns.map PyData.int)
  | [] => .nil
  | n :: ns => .cons (.int n) (DatL.ofInts ns)
theorem DatL.ints : ∀ {vs : List V} {ns : List Int}, DatL K F vs (ns.map PyData.int) -> vs = ns.map V.int
  | _, [], h => by cases h; rfl
  | _, n :: ns, h => by
    cases h with
    | cons a t => cases a; rw [DatL.ints t]; rfl
theorem DatL.strs : ∀ {vs : List V} {ns : List Str}, DatL K F vs (ns.map PyData.str) -> vs = ns.map V.str
  | _, [], h => by cases h; rfl
  | _, n :: ns, h => by
    cases h with
    | cons a t => cases a; rw [DatL.strs t]; rfl
theorem DatL.bools : ∀ {vs : List V} {ns : List Bool}, DatL K F vs (ns.map PyData.bool) -> vs = ns.map V.bl
  | _, [], h => by cases h; rfl
  | _, n :: ns, h => by
    cases h with
    | cons a t => cases a; rw [DatL.bools t]; rfl
mutual
theorem Dat.dp : ∀ {v : V} {d : D}, Dat K F v d -> d.plain = true -> Dp K F v d
  | _, _, .non, _ => .non
  | _, _, .bl b, _ => .bl b
  | _, _, .int i, _ => .int i
  | _, _, .str x, _ => .str x
  | _, _, .lst h t, p => .lst h (DatL.dp t (by simpa [PyData.plain] using p))
  | _, _, .tup h t, p => .tup h.1 (DatL.dp t (by simpa [PyData.plain] using p))
  | _, _, .dct _ _, p => by simp [PyData.plain] at p
theorem DatL.dp : ∀ {vs : List V} {ds : List D}, DatL K F vs ds -> PyData.plainAll ds = true -> DpAll K F vs ds
  | _, _, .nil, _ => .nil
  | _, _, .cons h t, p => by
    simp only [PyData.plainAll, Bool.and_eq_true] at p
    exact .cons (Dat.dp h p.1) (DatL.dp t p.2)
end
end

/-! ### cells: what a slot holds -/
inductive Cell where
  | emp | pure (d : D) | own (d : D) | inp (d : D)
abbrev DEnv := List Cell
/-- an object that is owned: it stands at a, its children lie in the still part F -/
def OwnAt (K : PySem.W.Frag) (F H : Hp) (a : Addr) : D -> Prop
  | .list ds => ∃ xs, H a = some (.lst xs) ∧ DatL K F xs ds
  | .dict kvs => ∃ ks, H a = some (.dK ks) ∧ DatK K F ks kvs
  | _ => False
theorem OwnAt.mono {K : PySem.W.Frag} {F F' H H' : Hp} {a : Addr} (e : Same F F') (s : ∀ o, H a = some o -> H' a = some o) : ∀ {d : D}, OwnAt K F H a d -> OwnAt K F' H' a d
  | .list _, ⟨xs, h, t⟩ => ⟨xs, s _ h, t.mono e⟩
  | .dict _, ⟨ks, h, t⟩ => ⟨ks, s _ h, t.mono e⟩
theorem OwnAt.there {K : PySem.W.Frag} {F H : Hp} {a : Addr} : ∀ {d : D}, OwnAt K F H a d -> ∃ o, H a = some o
  | .list _, ⟨_, h, _⟩ => ⟨_, h⟩
  | .dict _, ⟨_, h, _⟩ => ⟨_, h⟩
/-- frozen: it joins the still part -/
theorem OwnAt.frz {K : PySem.W.Frag} {F H : Hp} {a : Addr} {d : D} (h : OwnAt K F H a d) (n : F a = none) : ∃ o, H a = some o ∧ Dat K (upd F a o) (.ref a) d := by
  have sm : ∀ o, Same F (upd F a o) := fun o b u e => by rw [upd_ne (ne_of_none e n)]; exact e
  cases d with
  | list ds =>
    obtain ⟨xs, h, t⟩ := h
    exact ⟨_, h, .lst (.inl (.inl upd_same)) (t.mono (sm _))⟩
  | dict ds =>
    obtain ⟨xs, h, t⟩ := h
    exact ⟨_, h, .dct upd_same (t.mono (sm _))⟩
  | _ => exact h.elim

/-- what one reads: in the still part, or owned -/
def RdV (K : PySem.W.Frag) (F H : Hp) (v : V) (d : D) : Prop := Dat K F v d ∨ ∃ a, v = .ref a ∧ OwnAt K F H a d

/-- the def's frame: F0 the still part at its entry, G what must stay, P the arguments that it may change -/
structure Fx where
  F0 : Hp
  G : Hp
  P : List (Nat × Addr)

/-- a slot's value and its cell -/
def SlotR (K : PySem.W.Frag) (F H : Hp) (sv : Option (Option V)) : Cell -> Prop
  | .emp => True
  | .pure d => ∃ v, sv = some (some v) ∧ Dat K F v d
  | .own d => ∃ a, sv = some (some (V.ref a)) ∧ OwnAt K F H a d
  | .inp d => ∃ a, sv = some (some (V.ref a)) ∧ OwnAt K F H a d
def Cell.isOwn : Cell -> Bool
  | .own _ => true
  | .inp _ => true
  | _ => false

structure Rel (K : PySem.W.Frag) (x : Fx) (F : Hp) (σ : L2.St) (H : Hp) (δ : DEnv) : Prop where
  len : σ.length = δ.length
  sub : Same F H
  frm : Same x.G H
  f0 : Same x.F0 F
  ext : ∀ a, F a ≠ none -> x.F0 a ≠ none ∨ x.G a = none
  slot : ∀ (i : Nat) (c : Cell), δ[i]? = some c -> SlotR K F H σ[i]? c
  own : ∀ (i : Nat) (c : Cell) (a : Addr), δ[i]? = some c -> c.isOwn = true -> σ[i]? = some (some (V.ref a)) -> F a = none ∧ x.G a = none
  sep : ∀ (i j : Nat) (c e : Cell) (a : Addr), i ≠ j -> δ[i]? = some c -> c.isOwn = true -> δ[j]? = some e -> e.isOwn = true -> σ[i]? = some (some (V.ref a)) -> σ[j]? ≠ some (some (V.ref a))
  par : ∀ p ∈ x.P, σ[p.1]? = some (some (V.ref p.2)) ∧ ∃ d, δ[p.1]? = some (.inp d)
  inp : ∀ (i : Nat) (d : D), δ[i]? = some (.inp d) -> ∃ a, (i, a) ∈ x.P ∧ σ[i]? = some (some (V.ref a))

/-- what an expression tells -/
inductive Rv where
  | pure (d : D) | own (d : D) | bor (i : Nat)
def ResV (K : PySem.W.Frag) (x : Fx) (F H : Hp) (σ : L2.St) (δ : DEnv) (v : V) : Rv -> Prop
  | .pure d => Dat K F v d
  | .own d => ∃ a, v = .ref a ∧ OwnAt K F H a d ∧ F a = none ∧ x.G a = none ∧ ∀ (i : Nat) (c : Cell), δ[i]? = some c -> c.isOwn = true -> σ[i]? ≠ some (some (V.ref a))
  | .bor i => σ[i]? = some (some v)
def Cell.rd : Cell -> Option D
  | .pure d => some d
  | .own d => some d
  | .inp d => some d
  | .emp => none
def rd (δ : DEnv) : Rv -> Option D
  | .pure d => some d
  | .own d => some d
  | .bor i => match δ[i]? with
    | some c => c.rd
    | none => none
def settle : Rv -> Rv
  | .own d => .pure d
  | r => r
structure Exn where
  cls : Str
  arg : Option (Str × D)
inductive Out (α : Type) where
  | ok (a : α) (δ : DEnv) | ex (e : Exn) (δ : DEnv) | no
def Out.bind {α β : Type} : Out α -> (α -> DEnv -> Out β) -> Out β
  | .ok a δ, f => f a δ
  | .ex e δ, _ => .ex e δ
  | .no, _ => .no
def ofO {α : Type} (δ : DEnv) : Option α -> Out α
  | some a => .ok a δ
  | none => .no
/-- a value that goes into data: a slot's own object is still from then on -/
def esc : Rv -> DEnv -> Out D
  | .pure d, δ => .ok d δ
  | .own d, δ => .ok d δ
  | .bor i, δ => match δ[i]? with
    | some (.pure d) => .ok d δ
    | some (.own d) => .ok d (δ.set i (.pure d))
    | _ => .no
/-- a value that goes to a name -/
def tk : Rv -> DEnv -> Out Cell
  | .pure d, δ => .ok (.pure d) δ
  | .own d, δ => .ok (.own d) δ
  | .bor i, δ => match δ[i]? with
    | some (.pure d) => .ok (.pure d) δ
    | some (.own d) => .ok (.pure d) (δ.set i (.pure d))
    | _ => .no

section
variable {K : PySem.W.Frag} {x : Fx} {F H : Hp} {σ : L2.St} {δ : DEnv}
theorem Rel.nF (R : Rel K x F σ H δ) {a : Addr} (h : H a = none) : F a = none := R.sub.free h
theorem Rel.nG (R : Rel K x F σ H δ) {a : Addr} (h : H a = none) : x.G a = none := R.frm.free h
theorem same_upd {F : Hp} {a : Addr} {o : HO} (n : F a = none) : Same F (upd F a o) := fun b u e => by rw [upd_ne (ne_of_none e n)]; exact e
theorem same_upd2 {F H : Hp} {a : Addr} {o : HO} (s : Same F H) : Same (upd F a o) (upd H a o) := fun b u e => by
  by_cases h : b = a
  · subst h; rw [upd_same] at e ⊢; exact e
  · rw [upd_ne h] at e ⊢; exact s _ _ e
theorem same_updL {F H : Hp} {a : Addr} {o : HO} (s : Same F H) (h : H a = some o) : Same (upd F a o) H := fun b u e => by
  by_cases q : b = a
  · subst q; rw [upd_same] at e; rw [h]; exact e
  · rw [upd_ne q] at e; exact s _ _ e
theorem same_updR {F H : Hp} {a : Addr} {o : HO} (s : Same F H) (n : F a = none) : Same F (upd H a o) := fun b u e => by
  rw [upd_ne (ne_of_none e n)]; exact s _ _ e

theorem SlotR.mono {F F' H H' : Hp} {sv : Option (Option V)} {c : Cell} (e : Same F F') (s : ∀ a o, c.isOwn = true -> sv = some (some (V.ref a)) -> H a = some o -> H' a = some o) (h : SlotR K F H sv c) : SlotR K F' H' sv c := by
  cases c with
  | emp => trivial
  | pure d => obtain ⟨v, h1, h2⟩ := h; exact ⟨v, h1, h2.mono e⟩
  | own d => obtain ⟨a, h1, h2⟩ := h; exact ⟨a, h1, h2.mono e fun o q => s a o rfl h1 q⟩
  | inp d => obtain ⟨a, h1, h2⟩ := h; exact ⟨a, h1, h2.mono e fun o q => s a o rfl h1 q⟩
theorem SlotR.ownA {F H : Hp} {sv : Option (Option V)} {c : Cell} (h : SlotR K F H sv c) (o : c.isOwn = true) : ∃ a, sv = some (some (V.ref a)) ∧ ∃ u, H a = some u := by
  cases c with
  | emp => cases o
  | pure d => cases o
  | own d => obtain ⟨a, h1, h2⟩ := h; exact ⟨a, h1, h2.there⟩
  | inp d => obtain ⟨a, h1, h2⟩ := h; exact ⟨a, h1, h2.there⟩

/-- the heap and the still part grow -/
theorem Rel.grow (R : Rel K x F σ H δ) {F' H' : Hp} (e : Same F F') (s : Same F' H') (h : Same H H') (n : ∀ a, F a = none -> F' a ≠ none -> H a = none) : Rel K x F' σ H' δ where
  len := R.len
  sub := s
  frm := R.frm.trans h
  f0 := R.f0.trans e
  ext := fun a q => by
    by_cases z : F a = none
    · exact .inr (R.nG (n a z q))
    · exact R.ext a z
  slot := fun i c q => (R.slot i c q).mono e fun a o _ _ z => h _ _ z
  own := fun i c a q o z => by
    obtain ⟨h1, h2⟩ := R.own i c a q o z
    refine ⟨?_, h2⟩
    cases w : F' a with
    | none => rfl
    | some u =>
      have hn := n a h1 (by rw [w]; exact fun z => by cases z)
      obtain ⟨b, e1, u, e2⟩ := (R.slot i c q).ownA o
      rw [z] at e1; cases e1
      rw [hn] at e2; cases e2
  sep := R.sep
  par := R.par
  inp := R.inp
/-- a new object beside all, tracked, not in the still part -/
theorem Rel.beside (R : Rel K x F σ H δ) {p : Addr} (o : HO) (n : H p = none) : Rel K x F σ (upd H p o) δ :=
  R.grow (Same.refl _) (same_updR R.sub (R.nF n)) (same_upd n) fun a z w => absurd z w
/-- a new object within the still part -/
theorem Rel.still (R : Rel K x F σ H δ) {p : Addr} (o : HO) (n : H p = none) : Rel K x (upd F p o) σ (upd H p o) δ :=
  R.grow (same_upd (R.nF n)) (same_upd2 R.sub) (same_upd n) fun a z w => by
    by_cases q : a = p
    · rw [q]; exact n
    · rw [upd_ne q] at w; exact absurd z w
/-- an object that no slot owns is frozen -/
theorem Rel.frzA (R : Rel K x F σ H δ) {a : Addr} {o : HO} (h : H a = some o) (nF : F a = none) (nG : x.G a = none) (ns : ∀ (i : Nat) (c : Cell), δ[i]? = some c -> c.isOwn = true -> σ[i]? ≠ some (some (V.ref a))) : Rel K x (upd F a o) σ H δ where
  len := R.len
  sub := same_updL R.sub h
  frm := R.frm
  f0 := R.f0.trans (same_upd nF)
  ext := fun b q => by
    by_cases z : b = a
    · rw [z]; exact .inr nG
    · rw [upd_ne z] at q; exact R.ext b q
  slot := fun i c q => (R.slot i c q).mono (same_upd nF) fun a o _ _ z => z
  own := fun i c b q o z => by
    obtain ⟨h1, h2⟩ := R.own i c b q o z
    refine ⟨?_, h2⟩
    rw [upd_ne]
    · exact h1
    · rintro rfl; exact ns i c q o z
  sep := R.sep
  par := R.par
  inp := R.inp
theorem Rel.settle (R : Rel K x F σ H δ) {v : V} {r : Rv} (h : ResV K x F H σ δ v r) : ∃ F', Rel K x F' σ H δ ∧ Same F F' ∧ ResV K x F' H σ δ v (DE.settle r) := by
  cases r with
  | pure d => exact ⟨F, R, Same.refl _, h⟩
  | bor i => exact ⟨F, R, Same.refl _, h⟩
  | own d =>
    obtain ⟨a, rfl, o, nF, nG, ns⟩ := h
    obtain ⟨u, hu, hd⟩ := o.frz nF
    exact ⟨_, R.frzA hu nF nG ns, same_upd nF, hd⟩
/-- a settled value stays -/
theorem ResV.stay {F' H' : Hp} {δ' : DEnv} {v : V} {r : Rv} (h : ResV K x F H σ δ v (DE.settle r)) (e : Same F F') : ResV K x F' H' σ δ' v (DE.settle r) := by
  cases r with
  | pure d => exact Dat.mono e h
  | own d => exact Dat.mono e h
  | bor i => exact h
theorem Rel.read (R : Rel K x F σ H δ) {v : V} {r : Rv} {d : D} (h : ResV K x F H σ δ v r) (e : rd δ r = some d) : RdV K F H v d := by
  cases r with
  | pure d' => cases e; exact .inl h
  | own d' => cases e; obtain ⟨a, rfl, o, _⟩ := h; exact .inr ⟨a, rfl, o⟩
  | bor i =>
    cases q : δ[i]? with
    | none => simp only [rd, q] at e; cases e
    | some c =>
      simp only [rd, q] at e
      have h : σ[i]? = some (some v) := h
      have hs := R.slot i c q
      cases c with
      | emp => cases e
      | pure d' => cases e; obtain ⟨w, h1, h2⟩ := hs; rw [h] at h1; cases h1; exact .inl h2
      | own d' => cases e; obtain ⟨w, h1, h2⟩ := hs; rw [h] at h1; cases h1; exact .inr ⟨_, rfl, h2⟩
      | inp d' => cases e; obtain ⟨w, h1, h2⟩ := hs; rw [h] at h1; cases h1; exact .inr ⟨_, rfl, h2⟩

theorem set_get {δ : DEnv} {i : Nat} {c : Cell} {j : Nat} {e : Cell} (h : (δ.set i c)[j]? = some e) : (j = i ∧ e = c ∧ i < δ.length) ∨ (j ≠ i ∧ δ[j]? = some e) := by
  by_cases q : j = i
  · subst q
    by_cases z : j < δ.length
    · rw [List.getElem?_set_self z] at h; cases h; exact .inl ⟨rfl, rfl, z⟩
    · rw [List.getElem?_eq_none (by rw [List.length_set]; omega)] at h; cases h
  · rw [List.getElem?_set_ne (Ne.symm q)] at h; exact .inr ⟨q, h⟩
/-- a slot's own object is frozen -/
theorem Rel.frzS (R : Rel K x F σ H δ) {i : Nat} {d : D} (q : δ[i]? = some (.own d)) : ∃ F' v, Rel K x F' σ H (δ.set i (.pure d)) ∧ Same F F' ∧ σ[i]? = some (some v) ∧ Dat K F' v d := by
  obtain ⟨a, hs, ho⟩ : SlotR K F H σ[i]? (.own d) := R.slot i _ q
  obtain ⟨nF, nG⟩ := R.own i _ a q rfl hs
  obtain ⟨u, hu, hd⟩ := ho.frz nF
  have hi : i < δ.length := (List.getElem?_eq_some_iff.mp q).1
  refine ⟨upd F a u, .ref a, ?_, same_upd nF, hs, hd⟩
  refine ⟨by rw [List.length_set]; exact R.len, same_updL R.sub hu, R.frm, R.f0.trans (same_upd nF), fun b z => ?_, fun j c z => ?_, fun j c b z o w => ?_, fun j k c e b njk z1 o1 z2 o2 w => ?_, fun p hp => ?_, fun j e z => ?_⟩
  · by_cases w : b = a
    · rw [w]; exact .inr nG
    · rw [upd_ne w] at z; exact R.ext b z
  · rcases set_get z with ⟨rfl, rfl, _⟩ | ⟨nj, z⟩
    · exact ⟨.ref a, hs, hd⟩
    · exact (R.slot j c z).mono (same_upd nF) fun a o _ _ z => z
  · rcases set_get z with ⟨rfl, rfl, _⟩ | ⟨nj, z⟩
    · cases o
    · obtain ⟨h1, h2⟩ := R.own j c b z o w
      refine ⟨?_, h2⟩
      rw [upd_ne]
      · exact h1
      · rintro rfl; exact R.sep j i c _ b nj z o q rfl w hs
  · rcases set_get z1 with ⟨rfl, rfl, _⟩ | ⟨nj, z1⟩
    · cases o1
    · rcases set_get z2 with ⟨rfl, rfl, _⟩ | ⟨nk, z2⟩
      · cases o2
      · exact R.sep j k c e b njk z1 o1 z2 o2 w
  · obtain ⟨h1, e, h2⟩ := R.par p hp
    refine ⟨h1, e, ?_⟩
    rw [List.getElem?_set_ne]
    · exact h2
    · rintro rfl; rw [q] at h2; cases h2
  · rcases set_get z with ⟨rfl, h, _⟩ | ⟨nj, z⟩
    · cases h
    · exact R.inp j e z
theorem Rel.esc (R : Rel K x F σ H δ) {v : V} {r : Rv} {d : D} {δ' : DEnv} (h : ResV K x F H σ δ v r) (e : DE.esc r δ = .ok d δ') : ∃ F', Rel K x F' σ H δ' ∧ Same F F' ∧ Dat K F' v d := by
  cases r with
  | pure d' => cases e; exact ⟨F, R, Same.refl _, h⟩
  | own d' =>
    cases e
    obtain ⟨F', R', s, h'⟩ := R.settle h
    exact ⟨F', R', s, h'⟩
  | bor i =>
    have h : σ[i]? = some (some v) := h
    cases q : δ[i]? with
    | none => simp only [DE.esc, q] at e; cases e
    | some c =>
      simp only [DE.esc, q] at e
      cases c with
      | emp => cases e
      | inp d' => cases e
      | pure d' =>
        cases e
        obtain ⟨w, h1, h2⟩ : SlotR K F H σ[i]? (.pure d) := R.slot i _ q
        rw [h] at h1; cases h1
        exact ⟨F, R, Same.refl _, h2⟩
      | own d' =>
        cases e
        obtain ⟨F', w, R', s, h1, h2⟩ := R.frzS q
        rw [h] at h1; cases h1
        exact ⟨F', R', s, h2⟩
theorem esc_nex {r : Rv} {δ δ' : DEnv} {e : Exn} : esc r δ ≠ .ex e δ' := by
  intro h
  cases r with
  | pure d => cases h
  | own d => cases h
  | bor i =>
    simp only [esc] at h
    split at h <;> cases h
end
end DE

/-! DE2: the compiled syntax, and what it tells over data. -/
namespace DE
open PySem PySem.Spec PyProof.Rows L2

/-- built-in functions, types asked by isinstance, methods -/
inductive Bf where
  | len | abs | all | any | int | list | tuple | sum | max | min | sorted | dict
  deriving DecidableEq
inductive Tf where
  | str | bool | int | list | tuple
  deriving DecidableEq
inductive Mf where
  | append | reverse | get | isupper
  deriving DecidableEq
/-- a target -/
inductive CT where
  | nm (i : Nat) | tp (ts : List CT)
mutual
inductive CE where
  | slot (i : Nat) | con (d : D) | glb (x : Str)
  | bin (op : Operator) (a b : CE) | neg (a : CE)
  | cmp (op : CmpOp) (a b : CE) | cmp2 (o p : CmpOp) (a b c : CE)
  | nt (a : CE) | an (a b : CE) | orr (a b : CE) | ife (c a b : CE)
  | tup (es : CEs) | lst (es : CEs)
  | idx (a i : CE) | slc (a : CE) (lo hi : CO)
  | call (f : Str) (as : CAs)
  | blt (f : Bf) (as : CEs)
  | isi (a : CE) (T : Tf)
  | srt (a : CE) (f : Str)
  | lrv (a : CE) | sit (a : CE) | sky (a : CE) | dsp (es : CEs)
  | mth (m : Mf) (o : CE) (as : CEs)
  | lc (elt : CE) (tg : CT) (it : CI) (cond : CO) (own : List Nat)
inductive CEs where
  | nil | cons (e : CE) (r : CEs)
inductive CO where
  | non | som (e : CE)
inductive CAs where
  | nil | val (e : CE) (r : CAs) | ref (i : Nat) (r : CAs)
inductive CI where
  | val (e : CE) | rng1 (a : CE) | rng2 (a b : CE) | zp (a b : CE)
end
mutual
inductive CS where
  | expr (e : CE) | asg (i : Nat) (e : CE) | asgT (t : CT) (e : CE) | seti (i : Nat) (k e : CE) | aug (i : Nat) (op : Operator) (e : CE)
  | ifs (c : CE) (t e : CSs) | whl (c : CE) (b : CSs) | fr (t : CT) (it : CI) (b : CSs)
  | ret (e : CE) | retN | pass | brk | cont | nev
inductive CSs where
  | nil | cons (s : CS) (r : CSs)
end

/-! dicts with flat keys -/
def keyD : D -> Option Key
  | .int i => some (.inl i)
  | .str x => some (.inr x)
  | _ => none
def getKV : List (D × D) -> Key -> Option D
  | [], _ => none
  | (d, v) :: r, k => if keyD d = some k then some v else getKV r k
def repKV : List (D × D) -> Key -> D -> List (D × D)
  | [], _, _ => []
  | (d, w) :: r, k, v => (d, if keyD d = some k then v else w) :: repKV r k v
def putKV (kvs : List (D × D)) (k : Key) (v : D) : List (D × D) := if (getKV kvs k).isSome then repKV kvs k v else kvs ++ [(kD k, v)]
def mergeKV (kvs : List (D × D)) (more : List (Key × D)) : List (D × D) := more.foldl (fun acc p => putKV acc p.1 p.2) kvs
def pairsOf : List D -> Option (List (Key × D))
  | [] => some []
  | .tuple [a, b] :: r => match keyD a, pairsOf r with
    | some k, some ps => some ((k, b) :: ps)
    | _, _ => none
  | _ => none
def pairUp : List D -> Option (List (Key × D))
  | [] => some []
  | a :: b :: r => match keyD a, pairUp r with
    | some k, some ps => some ((k, b) :: ps)
    | _, _ => none
  | _ => none
def strKs : List (D × D) -> Option (List Str)
  | [] => some []
  | (.str x, _) :: r => (strKs r).map (x :: ·)
  | _ => none
def srtS (ks : List Str) : List Str := ks.mergeSort fun a b => decide (a.cps.toList ≤ b.cps.toList)
/-- sorted(d.items()), sorted(d.keys()) -/
def sitD : D -> Option Rv
  | .dict kvs => (strKs kvs).map fun ks => .own (.list ((srtS ks).map fun x => .tuple [.str x, (getKV kvs (.inr x)).getD .none]))
  | _ => none
def skyD : D -> Option Rv
  | .dict kvs => (strKs kvs).map fun ks => .own (.list ((srtS ks).map .str))
  | _ => none
/-! ### operations on data -/
def truthD : D -> Option Bool
  | .none => some false
  | .bool b => some b
  | .int i => some (i != 0)
  | .str s => if s.length ≤ sizeLine then some ((s.length : Int) != 0) else none
  | .list xs => some (!xs.isEmpty)
  | .tuple xs => some (!xs.isEmpty)
  | .dict xs => some (!xs.isEmpty)
/-- below so many bits -/
def bits (i : Int) : Nat := if i = 0 then 0 else i.natAbs.log2 + 1
/-- below 2 ^ k in size (so written that a kernel does not count up to it) -/
def sizeB (b : Nat) (i : Int) : Bool := decide (0 < b - i.toNat) && decide (0 < b - (-i).toNat)
theorem sizeB_iff {b : Nat} {i : Int} : sizeB b i = true ↔ -(b : Int) < i ∧ i < b := by
  unfold sizeB
  simp only [Bool.and_eq_true, decide_eq_true_eq]
  omega
def mulOk (i j : Int) : Bool := sizeB 18446744073709551616 i || sizeB 18446744073709551616 j
def divOk (j : Int) : Bool := decide (0 < j) && decide (j.natAbs.log2 < 9000)
theorem divOk_small {j : Int} (h : 0 < j) (h2 : j < 2 ^ 200) : divOk j = true := by
  unfold divOk
  simp only [Bool.and_eq_true, decide_eq_true_eq]
  refine ⟨h, ?_⟩
  have h3 : j.natAbs < 2 ^ 200 := by omega
  have h4 : j.natAbs.log2 < 200 := (Nat.log2_lt (by omega)).mpr h3
  omega
/-- a text n times over -/
def repS (x : Str) (n : Int) : Str := ⟨((List.replicate n.toNat x.cps.toList).flatten).toArray⟩
def binD : Operator -> D -> D -> Option Rv
  | .Add, .int i, .int j => some (.pure (.int (i + j)))
  | .Sub, .int i, .int j => some (.pure (.int (i - j)))
  | .Mult, .int i, .int j => if mulOk i j then some (.pure (.int (i * j))) else none
  | .Mult, .str i, .int j => if 0 ≤ j ∧ j ≤ 1000000 ∧ i.length * j.toNat ≤ sizeLine then some (.pure (.str (repS i j))) else none
  | .Mult, .tuple xs, .int j => if xs.isEmpty then none else if j = 1 then some (.pure (.tuple xs)) else if j = 0 then some (.pure (.tuple [])) else none
  | .FloorDiv, .int i, .int j => if divOk j then some (.pure (.int (i / j))) else none
  | .Mod, .int i, .int j => if 0 < j then some (.pure (.int (i % j))) else none
  | .Pow, .int i, .int j => if 0 ≤ j ∧ j ≤ 1000000 ∧ i.natAbs < 2 ^ 64 then some (.pure (.int (i ^ j.toNat))) else none
  | .Add, .str i, .str j => if i.length + j.length ≤ sizeLine then some (.pure (.str (i ++ j))) else none
  | .Add, .tuple xs, .tuple ys => if xs.length + ys.length ≤ sizeLine then some (.pure (.tuple (xs ++ ys))) else none
  | .Add, .list xs, .list ys => if xs.length + ys.length ≤ sizeLine then some (.own (.list (xs ++ ys))) else none
  | _, _, _ => none
/-- data that == compares -/
def eqOk (d : D) : Bool := d.plain && decide (d.depth ≤ 64)
def eqD (d e : D) : Option Bool := if eqOk d && eqOk e then some (PyData.eqv d e) else none
def inL (d : D) (xs : List D) : Bool := xs.any fun y => PyData.eqv y d
def isOne (s : Str) : Option Nat := match s.cps.toList with
  | [c] => some c
  | _ => none
def hasCh (c : Nat) (t : Str) : Bool := decide (c ∈ t.cps.toList)
def inD (d : D) : D -> Option Bool
  | .list xs => if eqOk d && eqOk (.list xs) then some (inL d xs) else none
  | .tuple xs => if eqOk d && eqOk (.tuple xs) then some (inL d xs) else none
  | .str t => match d with
    | .str s => match isOne s with
      | some c => some (hasCh c t)
      | none => none
    | _ => none
  | .dict kvs => (keyD d).map fun k => (getKV kvs k).isSome
  | _ => none
def ordOk (d e : D) : Bool := d.plain && (e.plain && (PySem.W.alike d e && decide (d.depth ≤ 64)))
def ordD : CmpOp -> D -> D -> Option Bool
  | .Lt, .int i, .int j => some (decide (i < j))
  | .LtE, .int i, .int j => some (decide (i ≤ j))
  | .Gt, .int i, .int j => some (decide (j < i))
  | .GtE, .int i, .int j => some (decide (j ≤ i))
  | .Lt, .str i, .str j => some (decide (i.cps.toList < j.cps.toList))
  | .LtE, .str i, .str j => some (!decide (j.cps.toList < i.cps.toList))
  | .Lt, .tuple i, .tuple j => if ordOk (.tuple i) (.tuple j) then some (PySem.W.dataLt (.tuple i) (.tuple j)) else none
  | .LtE, .tuple i, .tuple j => if ordOk (.tuple i) (.tuple j) then some (!PySem.W.dataLt (.tuple j) (.tuple i)) else none
  | _, _, _ => none
def isNone : D -> Bool
  | .none => true
  | _ => false
def cmpD : CmpOp -> D -> D -> Option Bool
  | .Eq, d, e => eqD d e
  | .NotEq, d, e => (eqD d e).map (!·)
  | .In, d, e => inD d e
  | .NotIn, d, e => (inD d e).map (!·)
  | .Is, d, .none => some (isNone d)
  | .IsNot, d, .none => some (!isNone d)
  | op, d, e => ordD op d e
def idxD : D -> D -> Option D
  | .list xs, .int i => atI xs i
  | .tuple xs, .int i => atI xs i
  | .str z, .int i => if z.length ≤ sizeLine then (atI z.cps.toList i).map fun c => .str ⟨#[c]⟩ else none
  | .dict kvs, k => (keyD k).bind (getKV kvs)
  | _, _ => none
/-- a part of a list by a slice's ends -/
def cutL {α : Type} (xs : List α) (lo hi : Option Int) : List α :=
  (xs.drop (HT.sIx xs.length 0 lo)).take (HT.sIx xs.length xs.length hi - HT.sIx xs.length 0 lo)
def slcD (d : D) (lo hi : Option Int) : Option Rv := match d with
  | .str z => if z.length ≤ sizeLine then some (.pure (.str (cutS z lo hi))) else none
  | .list xs => some (.own (.list (cutL xs lo hi)))
  | .tuple xs => some (.pure (.tuple (cutL xs lo hi)))
  | _ => none
def lenD : D -> Option Nat
  | .str z => if z.length ≤ sizeLine then some z.length else none
  | .list xs => some xs.length
  | .tuple xs => some xs.length
  | .dict xs => some xs.length
  | _ => none
def boolsOf : List D -> Option (List Bool)
  | [] => some []
  | .bool b :: r => (boolsOf r).map (b :: ·)
  | _ => none
def intsOf : List D -> Option (List Int)
  | [] => some []
  | .int b :: r => (intsOf r).map (b :: ·)
  | _ => none
/-- what is sorted by keys: alike data, of one kind -/
def okKeys (ks : List D) : Bool := PyData.plainAll ks && ((ks.all fun a => ks.all fun b => PySem.W.alike a b) && ((ks.all fun a => match a with
  | .tuple (_ :: _) => true
  | _ => false) || (ks.all fun a => match a with
  | .none => false
  | .tuple _ => false
  | _ => true)) && ks.all fun a => decide (a.depth ≤ 64))
def srtK (ds kds : List D) : List D := ((ds.zip kds).mergeSort (PySem.W.dataLe false (·.2))).map (·.1)
/-- list(reversed(a)) -/
def revD : D -> Option Rv
  | .list xs => some (.own (.list xs.reverse))
  | _ => none
def bltD : Bf -> List D -> Option Rv
  | .len, [d] => (lenD d).map fun (k : Nat) => .pure (.int (k : Int))
  | .abs, [.int i] => some (.pure (.int (if i < 0 then -i else i)))
  | .all, [.list xs] => (boolsOf xs).map fun bs => .pure (.bool (bs.all id))
  | .any, [.list xs] => (boolsOf xs).map fun bs => .pure (.bool (bs.any id))
  | .list, [.list xs] => some (.own (.list xs))
  | .list, [.tuple xs] => some (.own (.list xs))
  | .list, [.dict xs] => some (.own (.list (xs.map (·.1))))
  | .dict, [.dict xs] => some (.own (.dict xs))
  | .dict, [.list xs] => (pairsOf xs).map fun ps => .own (.dict (mergeKV [] ps))
  | .dict, [.tuple xs] => (pairsOf xs).map fun ps => .own (.dict (mergeKV [] ps))
  | .tuple, [.list xs] => some (.pure (.tuple xs))
  | .tuple, [.tuple xs] => some (.pure (.tuple xs))
  | .sum, [.list xs] => (intsOf xs).map fun ns => .pure (.int ns.sum)
  | .max, [.int i, .int j] => some (.pure (.int (if j > i then j else i)))
  | .min, [.int i, .int j] => some (.pure (.int (if j < i then j else i)))
  | .sorted, [.list xs] => if okKeys xs then some (.own (.list (xs.mergeSort (PySem.W.dataLe false fun d => d)))) else none
  | .int, [.int i] => some (.pure (.int i))
  | .int, [.bool b] => some (.pure (.int (if b then 1 else 0)))
  | _, _ => none
/-- isinstance -/
def isiD : Tf -> D -> Bool
  | .str, .str _ => true
  | .bool, .bool _ => true
  | .int, .int _ => true
  | .int, .bool _ => true
  | .list, .list _ => true
  | .tuple, .tuple _ => true
  | _, _ => false
/-- a method: what it tells, what its object is then -/
def mthD : Mf -> D -> List D -> Option (Rv × Option D)
  | .append, .list xs, [y] => if xs.length < sizeLine then some (.pure .none, some (.list (xs ++ [y]))) else none
  | .reverse, .list xs, [] => some (.pure .none, some (.list xs.reverse))
  | .get, .dict kvs, [k] => (keyD k).map fun k => (.pure ((getKV kvs k).getD .none), none)
  | .get, .dict kvs, [k, x] => (keyD k).map fun k => (.pure ((getKV kvs k).getD x), none)
  | .isupper, .str z, [] => some (.pure (.bool (Txt.isupper z)), none)
  | _, _, _ => none
/-- what a method is asked of -/
def okTy : Mf -> D -> Bool
  | .append, .list _ => true
  | .reverse, .list _ => true
  | .get, .dict _ => true
  | .isupper, .str _ => true
  | _, _ => false
/-- a store to o[k] -/
def setD (d k v : D) : Option D := match d, k with
  | .list xs, .int i => (ixN xs.length i).map fun j => .list (xs.set j v)
  | .dict kvs, k => (keyD k).bind fun k => if kvs.length < sizeLine then some (.dict (putKV kvs k v)) else none
  | _, _ => none

/-! ### calls -/
inductive CRes where
  | ret (c : Cell) (outs : List Cell) | exc (e : Exn) (outs : List Cell) | no
abbrev Calls := Str -> List Cell -> CRes
inductive Ar where
  | d (d : D) | r (i : Nat)
def arCell (δ : DEnv) : Ar -> Option Cell
  | .d d => some (.pure d)
  | .r i => match δ[i]? with
    | some (.pure d) => some (.pure d)
    | some (.own d) => some (.inp d)
    | some (.inp d) => some (.inp d)
    | _ => none
def arCells (δ : DEnv) : List Ar -> Option (List Cell)
  | [] => some []
  | a :: r => match arCell δ a, arCells δ r with
    | some c, some cs => some (c :: cs)
    | _, _ => none
/-- the slots handed on -/
def refsOf : List Ar -> List Nat
  | [] => []
  | .d _ :: r => refsOf r
  | .r i :: r => i :: refsOf r
/-- behind the call: what the slots handed on hold -/
def backTo1 (c : Cell) (d : D) : Cell := match c with
  | .own _ => .own d
  | .inp _ => .inp d
  | c => c
def putBack : List Ar -> List Cell -> DEnv -> DEnv
  | .r i :: as, .inp d :: cs, δ => putBack as cs (match δ[i]? with
    | some c => δ.set i (backTo1 c d)
    | none => δ)
  | _ :: as, _ :: cs, δ => putBack as cs δ
  | _, _, δ => δ
def callA (Γ : Calls) (f : Str) (as : List Ar) (δ : DEnv) : Out Rv :=
  if (refsOf as).Nodup then match arCells δ as with
    | some cs => match Γ f cs with
      | .ret (.pure d) outs => .ok (.pure d) (putBack as outs δ)
      | .ret (.own d) outs => .ok (.own d) (putBack as outs δ)
      | .exc e outs => .ex e (putBack as outs δ)
      | _ => .no
    | none => .no
  else .no

/-! ### targets -/
mutual
def asgD : CT -> D -> DEnv -> Option DEnv
  | .nm i, d, δ => match δ[i]? with
    | some (.inp _) => none
    | some _ => some (δ.set i (.pure d))
    | none => none
  | .tp ts, .tuple ds, δ => asgDs ts ds δ
  | .tp _, _, _ => none
def asgDs : List CT -> List D -> DEnv -> Option DEnv
  | [], [], δ => some δ
  | t :: ts, d :: ds, δ => match asgD t d δ with
    | some δ' => asgDs ts ds δ'
    | none => none
  | _, _, _ => none
end
mutual
/-- the slots that a target stores to -/
def CT.slots : CT -> List Nat
  | .nm i => [i]
  | .tp ts => slotsOf ts
def slotsOf : List CT -> List Nat
  | [] => []
  | t :: ts => CT.slots t ++ slotsOf ts
end
def wipeE (δ : DEnv) : List Nat -> DEnv
  | [] => δ
  | v :: vs => (wipeE δ vs).set v .emp
def plainAt (δ : DEnv) (i : Nat) : Bool := match δ[i]? with
  | some c => !c.isOwn
  | none => false
/-- the slots own hold what they held ahead -/
def rstE (δ0 δ : DEnv) : List Nat -> DEnv
  | [] => δ
  | v :: vs => (rstE δ0 δ vs).set v (δ0.getD v .emp)

/-! ### loops -/
def lcLoop (one : D -> DEnv -> Out (Option D)) : List D -> List D -> DEnv -> Out (List D)
  | [], acc, δ => .ok acc δ
  | d :: ds, acc, δ => match one d δ with
    | .ok (some y) δ' => if acc.length < sizeLine then lcLoop one ds (acc ++ [y]) δ' else .no
    | .ok none δ' => lcLoop one ds acc δ'
    | _ => .no
inductive Fl where
  | nx | rt (c : Cell) | bk | ct
def forLoop (body : D -> DEnv -> Out Fl) : List D -> DEnv -> Out Fl
  | [], δ => .ok .nx δ
  | d :: ds, δ => match body d δ with
    | .ok .nx δ' => forLoop body ds δ'
    | .ok .ct δ' => forLoop body ds δ'
    | .ok .bk δ' => .ok .nx δ'
    | .ok (.rt c) δ' => .ok (.rt c) δ'
    | .ex e δ' => .ex e δ'
    | .no => .no
def forBody (t : CT) (f : DEnv -> Out Fl) (d : D) (δ : DEnv) : Out Fl := match asgD t d δ with
  | some δ2 => f δ2
  | none => .no
def whileN (test : DEnv -> Out Bool) (body : DEnv -> Out Fl) : Nat -> DEnv -> Out Fl
  | 0, _ => .no
  | n + 1, δ => match test δ with
    | .ok false δ' => .ok .nx δ'
    | .ok true δ' => match body δ' with
      | .ok .nx δ2 => whileN test body n δ2
      | .ok .ct δ2 => whileN test body n δ2
      | .ok .bk δ2 => .ok .nx δ2
      | .ok (.rt c) δ2 => .ok (.rt c) δ2
      | .ex e δ2 => .ex e δ2
      | .no => .no
    | .ex e δ' => .ex e δ'
    | .no => .no

/-! ### expressions -/
section
variable (Γ : Calls) (gl : Str -> Option D)
/-- two values, the first settled -/
def two (δ : DEnv) (r1 r2 : Rv) (k : D -> D -> Option Rv) : Out Rv :=
  match rd δ (settle r1), rd δ r2 with
  | some d1, some d2 => ofO δ (k d1 d2)
  | _, _ => .no
def rdTo {α : Type} (δ : DEnv) (r : Rv) (k : D -> Option α) : Out α :=
  match rd δ r with
  | some d => ofO δ (k d)
  | none => .no
def rngD (lo hi : Int) : List D := (List.range (hi - lo).toNat).map fun (k : Nat) => .int (lo + k)
def rngOk (i : Int) : Bool := sizeB 4611686018427387904 i
theorem rngOk_in {i : Int} (h1 : -4611686018427387904 < i) (h2 : i < 4611686018427387904) : rngOk i = true := sizeB_iff.mpr ⟨by omega, by omega⟩
def zipD (xs ys : List D) : List D := (xs.zip ys).map fun p => .tuple [p.1, p.2]
def itemsD : D -> Option (List D)
  | .list xs => some xs
  | .tuple xs => some xs
  | .str z => some (z.cps.toList.map fun c => .str ⟨#[c]⟩)
  | _ => none
def mthA (m : Mf) (r : Rv) (as : List D) (δ : DEnv) : Out Rv :=
  match rd δ r with
  | some d => match mthD m d as with
    | some (v, none) => .ok v δ
    | some (.pure v, some d') => match r with
      | .bor i => match δ[i]? with
        | some c => if c.isOwn then .ok (.pure v) (δ.set i (backTo1 c d')) else .no
        | none => .no
      | _ => .no
    | some _ => .no
    | none => .no
  | none => .no
def keysD (Γ : Calls) (f : Str) : List D -> Option (List D)
  | [] => some []
  | d :: r => match Γ f [.pure d] with
    | .ret (.pure k) _ => (keysD Γ f r).map (k :: ·)
    | _ => none
def srtD (Γ : Calls) (f : Str) : D -> Option Rv
  | .list ds => match keysD Γ f ds with
    | some ks => if okKeys ks then some (.own (.list (srtK ds ks))) else none
    | none => none
  | _ => none
mutual
def evalE : CE -> DEnv -> Out Rv
  | .slot i, δ => match δ[i]? with
    | some .emp => .no
    | some _ => .ok (.bor i) δ
    | none => .no
  | .con d, δ => .ok (.pure d) δ
  | .glb x, δ => ofO δ ((gl x).map .pure)
  | .bin op a b, δ => (evalE a δ).bind fun r1 δ1 => (evalE b δ1).bind fun r2 δ2 => two δ2 r1 r2 (binD op)
  | .neg a, δ => (evalE a δ).bind fun r δ1 => rdTo δ1 r fun
    | .int i => some (.pure (.int (-i)))
    | _ => none
  | .cmp op a b, δ => (evalE a δ).bind fun r1 δ1 => (evalE b δ1).bind fun r2 δ2 => two δ2 r1 r2 fun d e => (cmpD op d e).map fun b => .pure (.bool b)
  | .cmp2 o p a b c, δ => (evalE a δ).bind fun r1 δ1 => (evalE b δ1).bind fun r2 δ2 =>
      match rd δ2 (settle r1), rd δ2 r2 with
      | some d1, some d2 => match cmpD o d1 d2 with
        | some false => .ok (.pure (.bool false)) δ2
        | some true => (evalE c δ2).bind fun r3 δ3 => two δ3 r2 r3 fun d e => (cmpD p d e).map fun b => .pure (.bool b)
        | none => .no
      | _, _ => .no
  | .nt a, δ => (evalE a δ).bind fun r δ1 => rdTo δ1 r fun
    | .bool b => some (.pure (.bool (!b)))
    | _ => none
  | .an a b, δ => (evalE a δ).bind fun r δ1 => match rd δ1 r with
    | some (.bool true) => evalE b δ1
    | some (.bool false) => .ok (.pure (.bool false)) δ1
    | _ => .no
  | .orr a b, δ => (evalE a δ).bind fun r δ1 => match rd δ1 r with
    | some (.bool true) => .ok (.pure (.bool true)) δ1
    | some (.bool false) => evalE b δ1
    | _ => .no
  | .ife c a b, δ => (evalT c δ).bind fun t δ1 => if t = true then evalE a δ1 else evalE b δ1
  | .tup es, δ => (evalEs es δ).bind fun ds δ1 => if ds.length ≤ sizeLine then .ok (.pure (.tuple ds)) δ1 else .no
  | .lst es, δ => (evalEs es δ).bind fun ds δ1 => if ds.length ≤ sizeLine then .ok (.own (.list ds)) δ1 else .no
  | .idx a i, δ => (evalE a δ).bind fun r1 δ1 => (evalE i δ1).bind fun r2 δ2 => two δ2 r1 r2 fun d k => (idxD d k).map .pure
  | .slc a lo hi, δ => (evalE a δ).bind fun r1 δ1 => (evalO lo δ1).bind fun l δ2 => (evalO hi δ2).bind fun u δ3 =>
      rdTo δ3 (settle r1) fun d => slcD d l u
  | .call f as, δ => (evalAs as δ).bind fun ars δ1 => callA Γ f ars δ1
  | .blt f as, δ => (evalRs as δ).bind fun rs δ1 => match rs.mapM (rd δ1) with
    | some ds => ofO δ1 (bltD f ds)
    | none => .no
  | .isi a T, δ => (evalE a δ).bind fun r δ1 => rdTo δ1 r fun d => some (.pure (.bool (isiD T d)))
  | .srt a f, δ => (evalE a δ).bind fun r δ1 => rdTo δ1 r (srtD Γ f)
  | .lrv a, δ => (evalE a δ).bind fun r δ1 => rdTo δ1 r revD
  | .sit a, δ => (evalE a δ).bind fun r δ1 => rdTo δ1 r sitD
  | .sky a, δ => (evalE a δ).bind fun r δ1 => rdTo δ1 r skyD
  | .dsp es, δ => (evalEs es δ).bind fun ds δ1 => match pairUp ds with
    | some ps => if ps.length ≤ 15 then .ok (.own (.dict (mergeKV [] ps))) δ1 else .no
    | none => .no
  | .mth m o as, δ => (evalE o δ).bind fun r δ1 => match rd δ1 r with
    | some d => if okTy m d then (evalEs as δ1).bind fun ds δ2 => mthA m (settle r) ds δ2 else .no
    | none => .no
  | .lc elt tg it cond own, δ => (evalI it δ).bind fun ds δ1 =>
      if own.all (plainAt δ1) && tg.slots.all (own.contains ·) then
        match lcLoop (fun d δ => match asgD tg d δ with
          | some δ2 => (evalC cond δ2).bind fun b δ3 => if b = true then (evalE elt δ3).bind fun r δ4 => (esc r δ4).bind fun y δ5 => .ok (some y) (wipeE δ5 own) else .ok none (wipeE δ3 own)
          | none => .no) ds [] (wipeE δ1 own) with
        | .ok ys δ2 => .ok (.own (.list ys)) (rstE δ1 δ2 own)
        | _ => .no
      else .no
def evalT : CE -> DEnv -> Out Bool
  | .nt a, δ => (evalT a δ).bind fun b δ1 => .ok (!b) δ1
  | .an a b, δ => (evalT a δ).bind fun t δ1 => if t = true then evalT b δ1 else .ok false δ1
  | .orr a b, δ => (evalT a δ).bind fun t δ1 => if t = true then .ok true δ1 else evalT b δ1
  | c, δ => (evalE c δ).bind fun r δ1 => rdTo δ1 r truthD
/-- an optional part: a number -/
def evalO : CO -> DEnv -> Out (Option Int)
  | .non, δ => .ok none δ
  | .som e, δ => (evalE e δ).bind fun r δ1 => rdTo δ1 r fun
    | .int i => some (some i)
    | _ => none
/-- an optional test -/
def evalC : CO -> DEnv -> Out Bool
  | .non, δ => .ok true δ
  | .som e, δ => evalT e δ
/-- data -/
def evalEs : CEs -> DEnv -> Out (List D)
  | .nil, δ => .ok [] δ
  | .cons e r, δ => (evalE e δ).bind fun v δ1 => (esc v δ1).bind fun d δ2 => (evalEs r δ2).bind fun ds δ3 => .ok (d :: ds) δ3
/-- values, settled -/
def evalRs : CEs -> DEnv -> Out (List Rv)
  | .nil, δ => .ok [] δ
  | .cons e r, δ => (evalE e δ).bind fun v δ1 => (evalRs r δ1).bind fun vs δ2 => .ok (settle v :: vs) δ2
def evalAs : CAs -> DEnv -> Out (List Ar)
  | .nil, δ => .ok [] δ
  | .val e r, δ => (evalE e δ).bind fun v δ1 => (esc v δ1).bind fun d δ2 => (evalAs r δ2).bind fun ds δ3 => .ok (.d d :: ds) δ3
  | .ref i r, δ => match δ[i]? with
    | some .emp => .no
    | some _ => (evalAs r δ).bind fun ds δ3 => .ok (.r i :: ds) δ3
    | none => .no
def evalI : CI -> DEnv -> Out (List D)
  | .val e, δ => (evalE e δ).bind fun v δ1 => (esc v δ1).bind fun d δ2 => ofO δ2 (itemsD d)
  | .rng1 a, δ => (evalE a δ).bind fun v δ1 => rdTo δ1 v fun
    | .int i => if rngOk i then some (rngD 0 i) else none
    | _ => none
  | .rng2 a b, δ => (evalE a δ).bind fun v δ1 => (evalE b δ1).bind fun w δ2 => match rd δ2 (settle v), rd δ2 w with
    | some (.int i), some (.int j) => if rngOk i && rngOk j then .ok (rngD i j) δ2 else .no
    | _, _ => .no
  | .zp a b, δ => (evalE a δ).bind fun v δ1 => (evalE b δ1).bind fun w δ2 => match rd δ2 (settle v), rd δ2 w with
    | some (.tuple xs), some (.tuple ys) => .ok (zipD xs ys) δ2
    | _, _ => .no
end
/-- a value that a def hands back -/
def retV : Rv -> DEnv -> Out Fl
  | .pure d, δ => .ok (.rt (.pure d)) δ
  | .own d, δ => .ok (.rt (.own d)) δ
  | .bor i, δ => match δ[i]? with
    | some (.pure d) => .ok (.rt (.pure d)) δ
    | some (.own d) => .ok (.rt (.own d)) (δ.set i .emp)
    | _ => .no
def asgC (i : Nat) (c : Cell) (δ : DEnv) : Out Fl := match δ[i]? with
  | some (.inp _) => .no
  | some _ => .ok .nx (δ.set i c)
  | none => .no
def hasV (δ : DEnv) (i : Nat) : Bool := match δ[i]? with
  | some .emp => false
  | some _ => true
  | none => false
def setC (i : Nat) (k v : D) (δ : DEnv) : Out Fl := match δ[i]? with
  | some c => if c.isOwn then match c.rd with
    | some d => match setD d k v with
      | some d' => .ok .nx (δ.set i (backTo1 c d'))
      | none => .no
    | none => .no
    else .no
  | none => .no
def augOk : Operator -> D -> D -> Bool
  | .Add, .int _, .int _ => true
  | .Sub, .int _, .int _ => true
  | .Mult, .int _, .int _ => true
  | .FloorDiv, .int _, .int _ => true
  | .Mod, .int _, .int _ => true
  | .Add, .str _, .str _ => true
  | _, _, _ => false
variable (W : Nat)
mutual
def execS : CS -> DEnv -> Out Fl
  | .expr e, δ => (evalE Γ gl e δ).bind fun _ δ1 => .ok .nx δ1
  | .asg i e, δ => (evalE Γ gl e δ).bind fun r δ1 => (tk r δ1).bind fun c δ2 => asgC i c δ2
  | .asgT t e, δ => (evalE Γ gl e δ).bind fun r δ1 => (esc r δ1).bind fun d δ2 => ofO' δ2 (asgD t d δ2)
  | .seti i k e, δ => (evalE Γ gl e δ).bind fun r δ1 => (esc r δ1).bind fun v δ2 => if hasV δ2 i then (evalE Γ gl k δ2).bind fun rk δ3 => match rd δ3 rk with
    | some k => setC i k v δ3
    | none => .no
    else .no
  | .aug i op e, δ => match δ[i]? with
    | some (.pure d0) => (evalE Γ gl e δ).bind fun r δ1 => match rd δ1 r with
      | some d1 => if augOk op d0 d1 then match binD op d0 d1 with
        | some (.pure d) => asgC i (.pure d) δ1
        | _ => .no
        else .no
      | none => .no
    | _ => .no
  | .ifs c t e, δ => (evalT Γ gl c δ).bind fun b δ1 => if b = true then execSs t δ1 else execSs e δ1
  | .whl c b, δ => whileN (evalT Γ gl c) (execSs b) W δ
  | .fr t it b, δ => (evalI Γ gl it δ).bind fun ds δ1 => forLoop (forBody t (execSs b)) ds δ1
  | .ret e, δ => (evalE Γ gl e δ).bind fun r δ1 => retV r δ1
  | .retN, δ => .ok (.rt (.pure .none)) δ
  | .pass, δ => .ok .nx δ
  | .brk, δ => .ok .bk δ
  | .cont, δ => .ok .ct δ
  | .nev, δ => .no
where ofO' (δ : DEnv) : Option DEnv -> Out Fl
  | some δ' => .ok .nx δ'
  | none => .no
def execSs : CSs -> DEnv -> Out Fl
  | .nil, δ => .ok .nx δ
  | .cons s r, δ => (execS s δ).bind fun f δ1 => match f with
    | .nx => execSs r δ1
    | f => .ok f δ1
end
end
/-- a def -/
structure CDef where
  ps : List Str
  N : List Str
  body : CSs
def outsOf (n : Nat) (δ : DEnv) : List Cell := δ.take n
def runBody (Γ : Calls) (gl : Str -> Option D) (W : Nat) (d : CDef) (args : List Cell) : CRes :=
  if args.length = d.ps.length then match execSs Γ gl W d.body (args ++ List.replicate (d.N.length - args.length) .emp) with
    | .ok (.rt c) δ => .ret c (outsOf d.ps.length δ)
    | .ok .nx δ => .ret (.pure .none) (outsOf d.ps.length δ)
    | .ex e δ => .exc e (outsOf d.ps.length δ)
    | _ => .no
  else .no
def callD (tab : Str -> Option CDef) (gl : Str -> Option D) (W : Nat) : Nat -> Calls
  | 0 => fun _ _ => .no
  | n + 1 => fun f args => match tab f with
    | some d => runBody (callD tab gl W n) gl W d args
    | none => .no
end DE

/-! DE3: from the text's own syntax to the compiled one. -/
namespace DE
open PySem PySem.Spec PyProof.Rows L2

/-- where a text stands: its names by slots, the scope that runs, the scope as written; the defs (with the places handed on by reference), the constants -/
structure CC where
  N : List Str
  sc : Scope
  os : Scope
  fns : List (Str × List Nat)
  gls : List Str
def idxOf (x : Str) : List Str -> Option Nat
  | [] => none
  | y :: r => if y = x then some 0 else (idxOf x r).map (· + 1)
theorem idxOf_get : ∀ {x : Str} {N : List Str} {i : Nat}, idxOf x N = some i -> N[i]? = some x
  | x, [], i, h => by cases h
  | x, y :: r, i, h => by
    unfold idxOf at h
    split at h
    · rename_i e; cases h; rw [e]; rfl
    · cases q : idxOf x r with
      | none => rw [q] at h; cases h
      | some j => rw [q] at h; cases h; rw [List.getElem?_cons_succ]; exact idxOf_get q
def visC (sc : Scope) (x : Str) : Bool := match sc.names.lookup x with
  | some .local => true
  | some .cell => true
  | some .free => true
  | _ => false
def locC (sc : Scope) (x : Str) : Bool := match sc.names.lookup x with
  | some .local => true
  | some .cell => true
  | _ => false
def gloC (sc : Scope) (x : Str) : Bool := match sc.names.lookup x with
  | some .globalImplicit => true
  | _ => false
theorem vis_of {sc : Scope} {x : Str} (h : visC sc x = true) : Vis sc x := by
  unfold visC at h
  split at h <;> first | exact .inl (by assumption) | exact .inr (.inl (by assumption)) | exact .inr (.inr (by assumption)) | cases h
theorem loc_of {sc : Scope} {x : Str} (h : locC sc x = true) : Loc sc x := by
  unfold locC at h
  split at h <;> first | exact .inl (by assumption) | exact .inr (by assumption) | cases h
theorem glo_of {sc : Scope} {x : Str} (h : gloC sc x = true) : sc.names.lookup x = some .globalImplicit := by
  unfold gloC at h
  split at h
  · assumption
  · cases h
def okName (x : Str) : Bool := !(x == ("__debug__" : Str)) && !(x == ("__classdict__" : Str)) && !(x == ("__name__" : Str))
/-- a name's slot -/
def CC.slot (c : CC) (x : Str) : Option Nat := if visC c.sc x && okName x then idxOf x c.N else none
/-- a name that is stored -/
def CC.st (c : CC) (x : Str) : Option Nat := if locC c.sc x && (locC c.os x && okName x) then idxOf x c.N else none
def noStar : Expr -> Bool
  | .Starred .. => false
  | _ => true
def noSlice : Expr -> Bool
  | .Slice .. => false
  | _ => true
def noSet : Expr -> Bool
  | .Set .. => false
  | _ => true
def noComp : Expr -> Bool
  | .ListComp .. => false
  | .SetComp .. => false
  | .DictComp .. => false
  | _ => true
/-- an object of a method's call: no bare call of a name -/
def noSuper : Expr -> Bool
  | .Call (.Name _ _) [] [] _ => false
  | _ => true
def conC : Const -> Option D
  | .none => some .none
  | .bool b => some (.bool b)
  | .int i => some (.int i)
  | .str x => some (.str x)
  | _ => none
def cmpOk : CmpOp -> Expr -> Bool
  | _, e => noSet e
def tfOf (T : Str) : Option Tf :=
  if T = "str" then some .str else if T = "bool" then some .bool else if T = "int" then some .int else if T = "list" then some .list else if T = "tuple" then some .tuple else none
def Tf.nm : Tf -> String
  | .str => "str" | .bool => "bool" | .int => "int" | .list => "list" | .tuple => "tuple"
theorem tfOf_eq {T : Str} {t : Tf} (h : tfOf T = some t) : T = Str.ofString t.nm := by
  unfold tfOf at h
  repeat (split at h; (· cases h; assumption))
  cases h
def bfOf (f : Str) : Option Bf :=
  if f = "len" then some .len else if f = "abs" then some .abs else if f = "all" then some .all else if f = "any" then some .any else if f = "int" then some .int else if f = "list" then some .list else if f = "tuple" then some .tuple else if f = "sum" then some .sum else if f = "max" then some .max else if f = "min" then some .min else if f = "sorted" then some .sorted else if f = "dict" then some .dict else none
def Bf.nm : Bf -> String
  | .len => "len" | .abs => "abs" | .all => "all" | .any => "any" | .int => "int" | .list => "list" | .tuple => "tuple" | .sum => "sum" | .max => "max" | .min => "min" | .sorted => "sorted" | .dict => "dict"
theorem bfOf_eq {f : Str} {b : Bf} (h : bfOf f = some b) : f = Str.ofString b.nm := by
  unfold bfOf at h
  repeat (split at h; (· cases h; assumption))
  cases h
def mfOf (m : Str) : Option Mf :=
  if m = "append" then some .append else if m = "reverse" then some .reverse else if m = "get" then some .get else if m = "isupper" then some .isupper else none
def Mf.nm : Mf -> String
  | .append => "append" | .reverse => "reverse" | .get => "get" | .isupper => "isupper"
theorem mfOf_eq {f : Str} {b : Mf} (h : mfOf f = some b) : f = Str.ofString b.nm := by
  unfold mfOf at h
  repeat (split at h; (· cases h; assumption))
  cases h
/-- the built-in names that the module must not bind -/
def allB : List Str := ["str", "bool", "int", "list", "tuple", "len", "abs", "all", "any", "isinstance", "range", "sum", "max", "min", "sorted", "reversed", "dict", "zip"]
def noIf : Expr -> Bool
  | .IfExp .. => false
  | _ => true
def noTup : Expr -> Bool
  | .Tuple .. => false
  | _ => true
/-- a comprehension's own names, by slots -/
def ownOf (N : List Str) : List (Str × NameKind) -> List (Str × Nat)
  | [] => []
  | (x, k) :: r => if k = .local ∨ k = .cell then match idxOf x N with
    | some i => (x, i) :: ownOf N r
    | none => ownOf N r
    else ownOf N r
mutual
def compT (c : CC) : Nat -> Expr -> Option CT
  | 0, _ => none
  | n + 1, e => match e with
    | .Name x _ => (c.st x).map .nm
    | .Tuple es _ _ => (compTs c n es).map .tp
    | _ => none
def compTs (c : CC) : Nat -> List Expr -> Option (List CT)
  | 0, _ => none
  | n + 1, es => match es with
    | [] => some []
    | e :: r => match noStar e, compT c n e, compTs c n r with
      | true, some t, some ts => some (t :: ts)
      | _, _, _ => none
end
def anR : CE -> List CE -> CE
  | a, [] => a
  | a, b :: r => .an a (anR b r)
def orR : CE -> List CE -> CE
  | a, [] => a
  | a, b :: r => .orr a (orR b r)
def isTup : Expr -> Bool
  | .Tuple .. => true
  | _ => false
mutual
def compE (c : CC) : Nat -> Expr -> Option CE
  | 0, _ => none
  | n + 1, e => match e with
    | .Name x _ => match c.slot x with
      | some i => some (.slot i)
      | none => if gloC c.sc x && (okName x && c.gls.contains x) then some (.glb x) else none
    | .Constant k _ _ => (conC k).map .con
    | .BinOp a op b _ => match compE c n a, compE c n b with
      | some x, some y => some (.bin op x y)
      | _, _ => none
    | .UnaryOp .USub a _ => (compE c n a).map .neg
    | .UnaryOp .Not a _ => if noIf a then (compE c n a).map .nt else none
    | .BoolOp .And es _ => compAn c n es
    | .BoolOp .Or es _ => compOr c n es
    | .Compare a [op] [b] _ => match noSet b, compE c n a, compE c n b with
      | true, some x, some y => some (.cmp op x y)
      | _, _, _ => none
    | .Compare a [o, p] [b, d] _ => match noSet b && noSet d, compE c n a, compE c n b, compE c n d with
      | true, some x, some y, some z => some (.cmp2 o p x y z)
      | _, _, _, _ => none
    | .IfExp t a b _ => match noIf t, compE c n t, compE c n a, compE c n b with
      | true, some x, some y, some z => some (.ife x y z)
      | _, _, _, _ => none
    | .Tuple es _ _ => (compEs c n es).map .tup
    | .List es _ => (compEs c n es).map .lst
    | .Dict ks vs _ => if ks.all (·.isSome) && (decide (ks.length = vs.length) && decide (ks.length ≤ 15)) then (compPs c n ks vs).map .dsp else none
    | .Subscript a (.Slice lo hi none _) _ => match compE c n a, compO c n lo, compO c n hi with
      | some x, some l, some h => some (.slc x l h)
      | _, _, _ => none
    | .Subscript a i _ => match noSlice i, compE c n a, compE c n i with
      | true, some x, some y => some (.idx x y)
      | _, _, _ => none
    | .Call (.Name f _) as [] _ => if gloC c.sc f && okName f then compCall c n f as else none
    | .Call (.Attribute o m ap) as [] cp => match noSuper o && (ap.endLine == cp.line && decide (as.length < 30)), mfOf m, compE c n o, compEs c n as with
      | true, some f, some x, some ys => some (.mth f x ys)
      | _, _, _, _ => none
    | .Call (.Name f _) [a] [⟨some kw, .Name g _, _⟩] _ => if f = "sorted" ∧ kw = "key" then match gloC c.sc f && (gloC c.sc g && (okName g && noStar a)), c.fns.lookup g, compE c n a with
        | true, some _, some x => some (.srt x g)
        | _, _, _ => none
      else none
    | .ListComp elt [⟨tg, it, ifs, 0⟩] scope _ => compLc c n elt tg it ifs scope
    | _ => none
def compCall (c : CC) : Nat -> Str -> List Expr -> Option CE
  | 0, _, _ => none
  | n + 1, f, as => match c.fns.lookup f with
    | some io => (compAs c n 0 io as).map (.call f)
    | none => match as with
      | [a, .Name T _] => if f = "isinstance" then match tfOf T, gloC c.sc T && noStar a, compE c n a with
          | some t, true, some x => some (.isi x t)
          | _, _, _ => none
        else match bfOf f, compEs c n as with
          | some b, some xs => some (.blt b xs)
          | _, _ => none
      | [] => none
      | [.Call (.Attribute o m ap) [] [] cp] => if f = "sorted" ∧ (m = "items" ∨ m = "keys") then match noSuper o && (ap.endLine == cp.line), compE c n o with
          | true, some x => some (if m = "items" then .sit x else .sky x)
          | _, _ => none
        else match bfOf f, compEs c n as with
          | some b, some xs => some (.blt b xs)
          | _, _ => none
      | [.Call (.Name g _) [a] [] _] => if f = "list" ∧ g = "reversed" then match gloC c.sc g && noStar a, compE c n a with
          | true, some x => some (.lrv x)
          | _, _ => none
        else match bfOf f, compEs c n as with
          | some b, some xs => some (.blt b xs)
          | _, _ => none
      | _ => match bfOf f, compEs c n as with
        | some b, some xs => some (.blt b xs)
        | _, _ => none
def compAn (c : CC) : Nat -> List Expr -> Option CE
  | 0, _ => none
  | n + 1, es => match es with
    | [a] => if noIf a then compE c n a else none
    | a :: b :: r => match noIf a, compE c n a, compAn c n (b :: r) with
      | true, some x, some y => some (.an x y)
      | _, _, _ => none
    | [] => none
def compOr (c : CC) : Nat -> List Expr -> Option CE
  | 0, _ => none
  | n + 1, es => match es with
    | [a] => if noIf a then compE c n a else none
    | a :: b :: r => match noIf a, compE c n a, compOr c n (b :: r) with
      | true, some x, some y => some (.orr x y)
      | _, _, _ => none
    | [] => none
def compEs (c : CC) : Nat -> List Expr -> Option CEs
  | 0, _ => none
  | n + 1, es => match es with
    | [] => some .nil
    | e :: r => match noStar e, compE c n e, compEs c n r with
      | true, some x, some xs => some (.cons x xs)
      | _, _, _ => none
def compPs (c : CC) : Nat -> List (Option Expr) -> List Expr -> Option CEs
  | 0, _, _ => none
  | n + 1, ks, vs => match ks, vs with
    | [], [] => some .nil
    | some k :: ks, v :: vs => match compE c n k, compE c n v, compPs c n ks vs with
      | some x, some y, some r => some (.cons x (.cons y r))
      | _, _, _ => none
    | _, _ => none
def compAs (c : CC) : Nat -> Nat -> List Nat -> List Expr -> Option CAs
  | 0, _, _, _ => none
  | n + 1, j, io, es => match es with
    | [] => some .nil
    | e :: r => match noStar e, compA1 c n (io.contains j) e, compAs c n (j + 1) io r with
      | true, some (.inl x), some xs => some (.val x xs)
      | true, some (.inr i), some xs => some (.ref i xs)
      | _, _, _ => none
def compA1 (c : CC) : Nat -> Bool -> Expr -> Option (CE ⊕ Nat)
  | 0, _, _ => none
  | n + 1, b, e => match b, e with
    | true, .Name x _ => (c.slot x).map .inr
    | _, e => (compE c n e).map .inl
def compO (c : CC) : Nat -> Option Expr -> Option CO
  | 0, _ => none
  | n + 1, o => match o with
    | none => some .non
    | some e => (compE c n e).map .som
def compI (c : CC) : Nat -> Bool -> Expr -> Option CI
  | 0, _, _ => none
  | n + 1, tup, e => match e with
    | .Call (.Name f _) [a] [] _ => if f = "range" then if gloC c.sc f && noStar a then (compE c n a).map .rng1 else none else (compE c n e).map .val
    | .Call (.Name f _) [a, b] [] _ => if f = "range" then
        if gloC c.sc f && (noStar a && noStar b) then match compE c n a, compE c n b with
          | some x, some y => some (.rng2 x y)
          | _, _ => none
        else none
      else if f = "zip" then
        if tup && (gloC c.sc f && (noStar a && noStar b)) then match compE c n a, compE c n b with
          | some x, some y => some (.zp x y)
          | _, _ => none
        else none
      else (compE c n e).map .val
    | _ => (compE c n e).map .val
def compLc (c : CC) : Nat -> Expr -> Expr -> Expr -> List Expr -> Scope -> Option CE
  | 0, _, _, _, _, _ => none
  | n + 1, elt, tg, it, ifs, scope =>
    if noSet it && blkC c.N c.sc scope (ownOf c.N scope.names) then
      match compI c n (isTup tg) it, compT { c with sc := relS scope c.sc, os := scope } n tg, compE { c with sc := relS scope c.sc, os := scope } n elt, compIfs { c with sc := relS scope c.sc, os := scope } n ifs with
      | some i, some t, some x, some o => some (.lc x t i o ((ownOf c.N scope.names).map (·.2)))
      | _, _, _, _ => none
    else none
def compIfs (c : CC) : Nat -> List Expr -> Option CO
  | 0, _ => none
  | n + 1, es => match es with
    | [] => some .non
    | [e] => match noIf e, compE c n e with
      | true, some x => some (.som x)
      | _, _ => none
    | _ => none
end
/-- the def's own scope has the names of its block -/
def swC (c : CC) (y : Str) (py : Pos) (e : Expr) : Bool := match e with
  | .ListComp _ _ scope pos => (match c.sc.kind with | .function => true | _ => false) && (match c.sc.names.lookup y with | some .local => true | _ => false) && ((py.line == pos.line) && !(scope.names.any fun (n, k) => n == y && (k == .local || k == .cell)))
  | _ => false
def compTest (c : CC) (n : Nat) (e : Expr) : Option CE := if noIf e then compE c n e else none
mutual
def compS (c : CC) : Nat -> Stmt -> Option CS
  | 0, _ => none
  | n + 1, s => match s with
    | .Expr e _ => if noComp e then (compE c n e).map .expr else none
    | .Assign [.Name y py] e _ => match swC c y py e || noComp e, c.st y, compE c n e with
      | true, some i, some x => some (.asg i x)
      | _, _, _ => none
    | .Assign [.Tuple ts k p] e _ => match noTup e && noComp e, compT c n (.Tuple ts k p), compE c n e with
      | true, some t, some x => some (.asgT t x)
      | _, _, _ => none
    | .Assign [.Subscript (.Name y _) k _] e _ => match noSlice k && noComp e, c.slot y, compE c n k, compE c n e with
      | true, some i, some x, some v => some (.seti i x v)
      | _, _, _, _ => none
    | .AugAssign (.Name y _) op e _ => match c.st y, compE c n e with
      | some i, some x => some (.aug i op x)
      | _, _ => none
    | .If t a b _ => match compTest c n t, compSs c n a, compSs c n b with
      | some x, some y, some z => some (.ifs x y z)
      | _, _, _ => none
    | .While t a [] _ => match compTest c n t, compSs c n a with
      | some x, some y => some (.whl x y)
      | _, _ => none
    | .For t it a [] _ => match compT c n t, noSet it, compI c n (isTup t) it, compSs c n a with
      | some x, true, some y, some z => some (.fr x y z)
      | _, _, _, _ => none
    | .Return (some e) _ => (compE c n e).map .ret
    | .Return none _ => some .retN
    | .Pass _ => some .pass
    | .Break _ => some .brk
    | .Continue _ => some .cont
    | .Raise _ _ _ => some .nev
    | _ => none
def compSs (c : CC) : Nat -> List Stmt -> Option CSs
  | 0, _ => none
  | n + 1, ss => match ss with
    | [] => some .nil
    | s :: r => match compS c n s, compSs c n r with
      | some x, some xs => some (.cons x xs)
      | _, _ => none
end
/-- the names of a def by slots: its parameters, its other own names, its comprehensions' names -/
def fnScopeB (N ps : List Str) (sc : Scope) : Bool :=
  (match sc.kind with | .function => true | _ => false) && (!sc.isCoroutine && (!sc.isGenerator && (decide N.Nodup && (decide (N.take ps.length = ps) && (ps.all (fun x => locC sc x) && sc.names.all fun y => decide (y.2 ≠ .free))))))
theorem fnScope_of {N ps : List Str} {sc : Scope} (h : fnScopeB N ps sc = true) : FnScope N ps sc := by
  unfold fnScopeB at h
  simp only [Bool.and_eq_true, Bool.not_eq_true', decide_eq_true_eq, List.all_eq_true] at h
  obtain ⟨h1, h2, h3, h4, h5, h6, h7⟩ := h
  refine ⟨?_, h2, h3, h4, h5, fun x hx => loc_of (h6 x hx), h7⟩
  split at h1
  · assumption
  · cases h1
end DE

/-! DE4: operations by values keep what the data tell. -/
namespace DE
open PySem PySem.Spec PyProof.Rows L2

/-- the heap and the still part grow by new objects -/
structure Grw (F H F' H' : Hp) : Prop where
  f : Same F F'
  s : Same F' H'
  h : Same H H'
  n : ∀ a, F a = none -> F' a ≠ none -> H a = none
theorem Grw.refl {F H : Hp} (s : Same F H) : Grw F H F H := ⟨Same.refl _, s, Same.refl _, fun _ a b => absurd a b⟩
theorem Grw.still {F H : Hp} (s : Same F H) {p : Addr} {o : HO} (n : H p = none) : Grw F H (upd F p o) (upd H p o) :=
  ⟨same_upd (s.free n), same_upd2 s, same_upd n, fun a z w => by
    by_cases q : a = p
    · rw [q]; exact n
    · rw [upd_ne q] at w; exact absurd z w⟩
theorem Grw.beside {F H : Hp} (s : Same F H) {p : Addr} {o : HO} (n : H p = none) : Grw F H F (upd H p o) :=
  ⟨Same.refl _, same_updR s (s.free n), same_upd n, fun _ a b => absurd a b⟩
/-- a result beside a growth -/
def ResN (K : PySem.W.Frag) (H F' H' : Hp) (u : V) : Rv -> Prop
  | .pure d => Dat K F' u d
  | .own d => ∃ a, u = .ref a ∧ OwnAt K F' H' a d ∧ F' a = none ∧ H a = none
  | .bor _ => False
theorem Rel.grw {K : PySem.W.Frag} {x : Fx} {F H F' H' : Hp} {σ : L2.St} {δ : DEnv} (R : Rel K x F σ H δ) (g : Grw F H F' H') : Rel K x F' σ H' δ := R.grow g.f g.s g.h g.n
theorem Rel.resN {K : PySem.W.Frag} {x : Fx} {F H F' H' : Hp} {σ : L2.St} {δ : DEnv} {u : V} {r : Rv} (R : Rel K x F σ H δ) (h : ResN K H F' H' u r) : ResV K x F' H' σ δ u r := by
  cases r with
  | pure d => exact h
  | bor i => exact h.elim
  | own d =>
    obtain ⟨a, rfl, o, nF, nH⟩ := h
    refine ⟨a, rfl, o, nF, R.nG nH, fun i c q oc z => ?_⟩
    obtain ⟨b, e1, w, e2⟩ := (R.slot i c q).ownA oc
    rw [z] at e1; cases e1
    rw [nH] at e2; cases e2

/-! ### readings over data -/
def rV2 (K : PySem.W.Frag) (g : D -> D -> Option Rv) : R2 := fun v w H Q => ∃ F d e r, Same F H ∧ RdV K F H v d ∧ RdV K F H w e ∧ g d e = some r ∧ ∀ F' H' u, Grw F H F' H' -> ResN K H F' H' u r -> Q u H'
def rV1 (K : PySem.W.Frag) (g : D -> Option Rv) : V -> Hp -> VK -> Prop := fun v H Q => ∃ F d r, Same F H ∧ RdV K F H v d ∧ g d = some r ∧ ∀ F' H' u, Grw F H F' H' -> ResN K H F' H' u r -> Q u H'
inductive RdVs (K : PySem.W.Frag) (F H : Hp) : List V -> List D -> Prop
  | nil : RdVs K F H [] []
  | cons {v : V} {vs : List V} {d : D} {ds : List D} : RdV K F H v d -> RdVs K F H vs ds -> RdVs K F H (v :: vs) (d :: ds)
def rVs (K : PySem.W.Frag) (g : List D -> Option Rv) : List V -> Hp -> VK -> Prop := fun vs H Q => ∃ F ds r, Same F H ∧ RdVs K F H vs ds ∧ g ds = some r ∧ ∀ F' H' u, Grw F H F' H' -> ResN K H F' H' u r -> Q u H'

section
variable {K : PySem.W.Frag} {F H : Hp} {v : V}
theorem RdV.int {i : Int} (h : RdV K F H v (.int i)) : v = .int i := by
  rcases h with h | ⟨a, _, o⟩
  · cases h; rfl
  · exact o.elim
theorem RdV.str {i : Str} (h : RdV K F H v (.str i)) : v = .str i := by
  rcases h with h | ⟨a, _, o⟩
  · cases h; rfl
  · exact o.elim
theorem RdV.bl {i : Bool} (h : RdV K F H v (.bool i)) : v = .bl i := by
  rcases h with h | ⟨a, _, o⟩
  · cases h; rfl
  · exact o.elim
theorem RdV.non (h : RdV K F H v .none) : v = .non := by
  rcases h with h | ⟨a, _, o⟩
  · cases h; rfl
  · exact o.elim
theorem RdV.list {ds : List D} (s : Same F H) (h : RdV K F H v (.list ds)) : ∃ a xs, v = .ref a ∧ SqL K H a xs ∧ DatL K F xs ds := by
  rcases h with h | ⟨a, e, xs, o, t⟩
  · cases h with
    | lst h t => exact ⟨_, _, rfl, sqL_mono s h, t⟩
  · exact ⟨a, xs, e, .inl (.inl o), t⟩
theorem RdV.tup {ds : List D} (s : Same F H) (h : RdV K F H v (.tuple ds)) : ∃ a xs, v = .ref a ∧ SqT K H a xs ∧ DatL K F xs ds ∧ Dat K F v (.tuple ds) := by
  rcases h with h | ⟨a, e, o⟩
  · cases h with
    | tup h t => exact ⟨_, _, rfl, sqT_mono s h.1, t, .tup h t⟩
  · exact o.elim
theorem RdV.dict {ds : List (D × D)} (s : Same F H) (h : RdV K F H v (.dict ds)) : ∃ a ks, v = .ref a ∧ H a = some (.dK ks) ∧ DatK K F ks ds := by
  rcases h with h | ⟨a, e, xs, o, t⟩
  · cases h with
    | dct h t => exact ⟨_, _, rfl, s _ _ h, t⟩
  · exact ⟨a, xs, e, o, t⟩
/-- what is read over the whole heap -/
theorem RdV.whole {d : D} (s : Same F H) (h : RdV K F H v d) : Dat K H v d := by
  rcases h with h | ⟨a, e, o⟩
  · exact h.mono s
  · subst e
    cases d with
    | list ds => obtain ⟨xs, o, t⟩ := o; exact .lst (.inl (.inl o)) (t.mono s)
    | dict ds => obtain ⟨xs, o, t⟩ := o; exact .dct (o) (t.mono s)
    | _ => exact o.elim
theorem fin_pure {Q : VK} {r : Rv} {d : D} {u : V} (s : Same F H) (q : ∀ F' H' u, Grw F H F' H' -> ResN K H F' H' u r -> Q u H') (e : r = .pure d) (h : Dat K F u d) : Q u H := by
  subst e
  exact q F H u (Grw.refl s) h
theorem fin_tup {Q : VK} {r : Rv} {ds : List D} {xs : List V} (s : Same F H) (q : ∀ F' H' u, Grw F H F' H' -> ResN K H F' H' u r -> Q u H') (e : r = .pure (.tuple ds)) (h : DatL K F xs ds) {p : Addr} {o : Obj} (n : H p = none) (ho : o.dict = none) : Q (.ref p) (upd H p (.frz o (.tup xs))) := by
  subst e
  exact q _ _ _ (Grw.still s n) (.tup ⟨.inl (.inr ⟨_, upd_same⟩), .inl ⟨_, _, upd_same, ho⟩⟩ (h.mono (same_upd (s.free n))))
theorem fin_dct {Q : VK} {r : Rv} {ds : List (D × D)} {ks : List (Key × V)} (s : Same F H) (q : ∀ F' H' u, Grw F H F' H' -> ResN K H F' H' u r -> Q u H') (e : r = .own (.dict ds)) (h : DatK K F ks ds) {p : Addr} (n : H p = none) : Q (.ref p) (upd H p (.dK ks)) := by
  subst e
  exact q F _ _ (Grw.beside s n) ⟨p, rfl, ⟨ks, upd_same, h⟩, s.free n, n⟩
theorem fin_lst {Q : VK} {r : Rv} {ds : List D} {xs : List V} (s : Same F H) (q : ∀ F' H' u, Grw F H F' H' -> ResN K H F' H' u r -> Q u H') (e : r = .own (.list ds)) (h : DatL K F xs ds) {p : Addr} (n : H p = none) : Q (.ref p) (upd H p (.lst xs)) := by
  subst e
  exact q _ _ _ (Grw.beside s n) ⟨p, rfl, ⟨xs, upd_same, h⟩, s.free n, n⟩
end

/-! ### dicts with flat keys -/
section
variable {K : PySem.W.Frag} {F : Hp}
theorem keyD_kD (k : Key) : keyD (kD k) = some k := by cases k <;> rfl
theorem keyD_eq {d : D} {k : Key} (h : keyD d = some k) : d = kD k := by
  cases d <;> first | (cases h; done) | (cases h; rfl)
theorem dat_kV (k : Key) : Dat K F (kV k) (kD k) := by
  cases k with
  | inl i => exact .int i
  | inr x => exact .str x
theorem DatK.len : ∀ {ks : List (Key × V)} {ds : List (D × D)}, DatK K F ks ds -> ks.length = ds.length
  | _, _, .nil => rfl
  | _, _, .cons _ t => by rw [List.length_cons, List.length_cons, DatK.len t]
theorem getKV_pos {k : Key} {v : D} {r : List (D × D)} : getKV ((kD k, v) :: r) k = some v := by
  show (if keyD (kD k) = some k then some v else getKV r k) = some v
  rw [keyD_kD, if_pos rfl]
theorem getKV_neg {j k : Key} {v : D} {r : List (D × D)} (h : ¬ j = k) : getKV ((kD j, v) :: r) k = getKV r k := by
  show (if keyD (kD j) = some k then some v else getKV r k) = getKV r k
  rw [keyD_kD, if_neg (fun z => h (Option.some.inj z))]
theorem DatK.val (k : Key) : ∀ {ks : List (Key × V)} {ds : List (D × D)}, DatK K F ks ds -> (valV ks k = none ∧ getKV ds k = none) ∨ ∃ v d, valV ks k = some v ∧ getKV ds k = some d ∧ Dat K F v d
  | _, _, .nil => .inl ⟨rfl, rfl⟩
  | _, _, .cons (k := j) (v := v) (d := d) h t => by
    by_cases e : j = k
    · subst e
      exact .inr ⟨v, d, valV_pos rfl, getKV_pos, h⟩
    · rw [valV_neg (p := (j, v)) e, getKV_neg e]
      exact DatK.val k t
theorem DatK.rep {k : Key} {v : V} {d : D} (hd : Dat K F v d) : ∀ {ks : List (Key × V)} {ds : List (D × D)}, DatK K F ks ds -> DatK K F (ks.map fun kv => if kv.1 = k then (kv.1, v) else kv) (repKV ds k d)
  | _, _, .nil => .nil
  | _, _, .cons (k := j) h t => by
    rw [List.map_cons]
    show DatK K F _ ((kD j, if keyD (kD j) = some k then d else _) :: _)
    rw [keyD_kD]
    by_cases e : j = k
    · rw [if_pos e, if_pos (congrArg some e)]
      exact .cons hd (DatK.rep hd t)
    · rw [if_neg e, if_neg (fun z => e (Option.some.inj z))]
      exact .cons h (DatK.rep hd t)
theorem DatK.snoc {k : Key} {v : V} {d : D} (hd : Dat K F v d) : ∀ {ks : List (Key × V)} {ds : List (D × D)}, DatK K F ks ds -> DatK K F (ks ++ [(k, v)]) (ds ++ [(kD k, d)])
  | _, _, .nil => .cons hd .nil
  | _, _, .cons h t => .cons h (DatK.snoc hd t)
theorem DatK.put {ks : List (Key × V)} {ds : List (D × D)} {k : Key} {v : V} {d : D} (h : DatK K F ks ds) (hd : Dat K F v d) : DatK K F (putK ks k v) (putKV ds k d) := by
  unfold putK putKV
  rw [valV_any]
  have e : (valV ks k).isSome = (getKV ds k).isSome := by
    rcases h.val k with ⟨a, b⟩ | ⟨x, y, a, b, _⟩ <;> rw [a, b] <;> rfl
  rw [e]
  by_cases z : (getKV ds k).isSome = true
  · rw [if_pos z, if_pos z]; exact h.rep hd
  · rw [if_neg z, if_neg z]; exact h.snoc hd
theorem DatK.keys : ∀ {ks : List (Key × V)} {ds : List (D × D)}, DatK K F ks ds -> DatL K F (ks.map fun p => kV p.1) (ds.map (·.1))
  | _, _, .nil => .nil
  | _, _, .cons (k := k) _ t => .cons (dat_kV k) (DatK.keys t)
abbrev mD (md : List (Key × D)) : List (D × D) := md.map fun p => (kD p.1, p.2)
theorem DatK.merge : ∀ (ms : List (Key × V)) (md : List (Key × D)) {ks : List (Key × V)} {ds : List (D × D)}, DatK K F ms (mD md) -> DatK K F ks ds -> DatK K F (mergeK ks ms) (mergeKV ds md)
  | [], [], _, _, _, h => h
  | (k, v) :: ms, (j, d) :: md, ks, ds, m, h => by
    have m : DatK K F ((k, v) :: ms) ((kD j, d) :: mD md) := m
    generalize e : kD j = x at m
    cases m with
    | cons hv t =>
      have ej : j = k := by have z := congrArg keyD e; rw [keyD_kD, keyD_kD] at z; exact Option.some.inj z
      subst ej
      exact DatK.merge ms md t (h.put hv)
  | [], _ :: _, _, _, m, _ => nomatch m
  | _ :: _, [], _, _, m, _ => nomatch m
theorem pairs_dat : ∀ {vs : List V} {ds : List D} {md : List (Key × D)}, DatL K F vs ds -> pairsOf ds = some md -> ∃ (ps : List Addr) (kvs : List (Key × V)), vs = ps.map V.ref ∧ Paired (fun p kv => SqT K F p [kV kv.1, kv.2]) ps kvs ∧ DatK K F kvs (mD md)
  | _, _, _, .nil, e => by
    cases e
    exact ⟨[], [], rfl, .nil, .nil⟩
  | _, _, md, .cons (v := v) (vs := vs) (d := d) (ds := ds) h t, e => by
    unfold pairsOf at e
    split at e
    · rename_i z; cases z
    · rename_i a b r z
      injection z with z1 z2
      subst z1 z2
      split at e
      · rename_i k ps0 h1 h2
        cases e
        obtain ⟨ps, kvs, r1, r2, r3⟩ := pairs_dat t h2
        have ea := keyD_eq h1
        subst ea
        cases h with
        | @tup p xs ds hq hl =>
          cases hl with
          | @cons u us _ _ hu hl =>
            cases hl with
            | @cons y ys _ _ hy hl =>
              cases hl
              have eu : u = kV k := by
                cases k with
                | inl i => cases hu; rfl
                | inr x => cases hu; rfl
              subst eu
              exact ⟨p :: ps, (k, y) :: kvs, by rw [List.map_cons, r1], .cons hq.1 r2, .cons hy r3⟩
      · cases e
    · cases e
theorem strKs_eq : ∀ {ks : List (Key × V)} {ds : List (D × D)} {xs : List Str}, DatK K F ks ds -> strKs ds = some xs -> ks.map (·.1) = xs.map Sum.inr
  | _, _, _, .nil, e => by cases e; rfl
  | _, _, xs, .cons (k := k) (ks := ks) (ds := ds) _ t, e => by
    cases k with
    | inl i => cases e
    | inr x =>
      have e : (strKs ds).map (x :: ·) = some xs := e
      cases q : strKs ds with
      | none => rw [q] at e; cases e
      | some r => rw [q] at e; cases e; rw [List.map_cons, List.map_cons, strKs_eq t q]
end
/-! ### new tuples: their objects are known -/
section
variable {X : Cx}
/-- the object of a new tuple -/
abbrev tupO (us : List Value) : Obj := { cls := .type "tuple", data := .seq us.toArray }
theorem frz_new {P : Program} {w : World} {H : Hp} {h : Heap} {xs : List V} {us : List Value} (z : xs.length ≤ sizeLine) (r : Vals xs us) : ObjOk P w H (h.push (tupO us)) h.objs.size (.frz (tupO us) (.tup xs)) :=
  ⟨Heap.get?_push_size _ rfl, z, us, r, ⟨_, Heap.get?_push_size _ rfl, rfl, _, rfl⟩⟩
/-- laid open behind a push -/
theorem inv_tupF {pins : List (Addr × Obj)} {σ : L2.St} {H : Hp} {s : Shared} {xs : List V} {us : List Value} (I : Inv X pins σ H s) (z : xs.length ≤ sizeLine) (r : Vals xs us) (t' : Nat) :
    Inv X pins σ (upd H s.heap.objs.size (.frz (tupO us) (.tup xs))) { s with heap := s.heap.push (tupO us), toks := t' } :=
  I.laid (t' := t') (fun _ _ e => Heap.get?_push_of_some _ e) (Nat.le_refl _) (frz_new z r)
theorem tup_mul1 (l : Addr) (items : Array Value) (n : Nat) (dd : Option Addr) (sl : Array (Option Value)) (u : Tok) :
    Meets (Builtin.«tuple.__mul__» ⟨[.ref l, .int 1 u], []⟩) (fun _ R s => s.heap.get? l = some { cls := .type "tuple", dict := dd, data := .seq items n, slots := sl } ∧ R (.ok (.ret (Value.ref l))) s) :=
  .of_wp fun prog w A R s h => by
    obtain ⟨hp, g, d, tk, os⟩ := s
    obtain ⟨hl, h⟩ := h
    have f1 := AutoSeq1.idx_int
    wp_walk using wpAny_loadPart' hl
    exact ⟨_, rfl, h⟩
theorem tup_mul0 (l : Addr) (items : Array Value) (n : Nat) (dd : Option Addr) (sl : Array (Option Value)) (u : Tok) (hne : items.isEmpty = false) :
    Meets (Builtin.«tuple.__mul__» ⟨[.ref l, .int 0 u], []⟩) (fun _ R s => s.heap.get? l = some { cls := .type "tuple", dict := dd, data := .seq items n, slots := sl } ∧ R (.ok (.ret (Value.ref s.heap.objs.size))) { s with heap := s.heap.push (tupO []) }) :=
  .of_wp fun prog w A R s h => by
    obtain ⟨hp, g, d, tk, os⟩ := s
    obtain ⟨hl, h⟩ := h
    have f1 := AutoSeq1.idx_int
    wp_walk using wpAny_loadPart' hl
    exact ⟨_, rfl, h⟩
def rMulT (K : PySem.W.Frag) : R2 := fun x y H Q => ∃ l xs k, x = .ref l ∧ y = .int k ∧ SqT K H l xs ∧ xs ≠ [] ∧ ((k = 1 ∧ Q (.ref l) H) ∨ (k = 0 ∧ ∀ p o, H p = none -> o.dict = none -> Q (.ref p) (upd H p (.frz o (.tup [])))))
theorem op_mulT : OpR X (binaryOp .Mult) (rMulT X.K) := by
  intro pins s σ H x y v u Q I rx ry h
  obtain ⟨l, xs, k, rfl, rfl, hT, hne, h⟩ := h
  cases rx
  obtain ⟨t, rfl⟩ := ry
  obtain ⟨us, r, ⟨⟨cls, dd, data, sl⟩, ho, hc, n, hd⟩, hz⟩ := I.tuple hT
  simp only at hc hd
  subst hc hd
  have hn : us ≠ [] := fun e => hne (r.nil_iff.mp e)
  have hi : us.toArray.isEmpty = false := by
    cases us with
    | nil => exact absurd rfl hn
    | cons a b => rfl
  refine wpAny_binaryOp_repeat_ref (T := "tuple") (U := "int") (by decide) ⟨_, ho, rfl⟩ (fun s' => typeIs_int s' k t) noFill_tuple_mul PySem.F.fills_int_mul PySem.F.slot_int_rmul repeat_tuple PySem.F.slot_int_index.lookup
    (call_meets PySem.F.slot_int_rmul (typeIs_int s k t) PySem.F.entry_int_rmul (PySem.F.args_int_rmul_2 _ _) (int_rmul_tuple k t l us.toArray n dd sl) ⟨ho, rfl, ⟨_, ho, rfl⟩, ?_⟩)
  rcases h with ⟨rfl, q⟩ | ⟨rfl, q⟩
  · exact call_meets PySem.F.slot_tuple_mul ⟨_, ho, rfl⟩ PySem.F.entry_tuple_mul (PySem.F.args_tuple_mul_2 _ _) (tup_mul1 l us.toArray n dd sl t) ⟨ho, ⟨.ref l, H, I, rfl, q⟩⟩
  · exact call_meets PySem.F.slot_tuple_mul ⟨_, ho, rfl⟩ PySem.F.entry_tuple_mul (PySem.F.args_tuple_mul_2 _ _) (tup_mul0 l us.toArray n dd sl t hi) ⟨ho, ⟨.ref _, _, inv_tupF I (xs := []) (Nat.zero_le _) .nil s.toks, rfl, q _ _ (I.hok.fresh (Nat.le_refl _)) rfl⟩⟩
def rCatF (K : PySem.W.Frag) : R2 := fun x y H Q => ∃ a b xs ys, x = .ref a ∧ y = .ref b ∧ SqT K H a xs ∧ SqT K H b ys ∧ xs.length + ys.length ≤ sizeLine ∧
  (xs = [] -> Q (.ref b) H) ∧ (xs ≠ [] -> ys = [] -> Q (.ref a) H) ∧ (xs ≠ [] -> ys ≠ [] -> ∀ p o, H p = none -> o.dict = none -> Q (.ref p) (upd H p (.frz o (.tup (xs ++ ys)))))
theorem op_catF : OpR X (binaryOp .Add) (rCatF X.K) := by
  intro pins s σ H x y v u Q I rx ry h
  obtain ⟨a, b, xs, ys, rfl, rfl, ha, hb, hz, q0, q1, q2⟩ := h
  by_cases hx : xs = []
  · exact op_catA pins s σ H _ _ v u Q I rx ry ⟨a, b, xs, ys, rfl, rfl, ha, hb, hz, q0, q1, fun z => absurd hx z⟩
  · cases rx; cases ry
    obtain ⟨us, r1, p1, _⟩ := I.tuple ha
    obtain ⟨ws, r2, p2, _⟩ := I.tuple hb
    refine HT.cat_tup p1 p2 (fun z => hx (r1.nil_iff.mp z)) (fun z => ⟨.ref a, H, I, rfl, q1 hx (r2.nil_iff.mp z)⟩) (fun z => ?_) (by have e1 := r1.length; have e2 := r2.length; omega)
    exact ⟨.ref _, _, inv_tupF I (xs := xs ++ ys) (by rw [List.length_append]; exact hz) (r1.append r2) s.toks, rfl, q2 hx (fun w => z (r2.nil_iff.mpr w)) _ _ (I.hok.fresh (Nat.le_refl _)) rfl⟩
def rSlF (K : PySem.W.Frag) : V -> Option Int -> Option Int -> Hp -> VK -> Prop := fun x lo hi H Q => ∃ a xs, x = .ref a ∧ SqT K H a xs ∧
  (HT.sIx xs.length 0 lo = 0 ∧ HT.sIx xs.length xs.length hi = xs.length -> Q (.ref a) H) ∧ (¬ (HT.sIx xs.length 0 lo = 0 ∧ HT.sIx xs.length xs.length hi = xs.length) -> ∀ p o, H p = none -> o.dict = none -> Q (.ref p) (upd H p (.frz o (.tup (cutV xs lo hi)))))
theorem sl_tupF : SlR X (rSlF X.K) := by
  intro pins s σ H x v vl vu lo hi sl Q I rx hs pl pu h
  obtain ⟨a, xs, rfl, hx, q1, q2⟩ := h
  by_cases hw : HT.sIx xs.length 0 lo = 0 ∧ HT.sIx xs.length xs.length hi = xs.length
  · exact sl_tupA pins s σ H _ v vl vu lo hi sl Q I rx hs pl pu ⟨a, xs, rfl, hx, q1, fun z => absurd hw z⟩
  · cases rx
    obtain ⟨us, r, ht, hz⟩ := I.tuple hx
    have hl : us.toArray.size = xs.length := by rw [List.size_toArray]; exact r.length.symm
    refine ⟨"tuple", _, PyProof.Rows.slot_tuple_getitem.lookup, ht.typeIs, ?_⟩
    refine HT.getItem_tuple_cut ht hs pl pu (by rw [hl]; exact hw) ?_ (by rw [hl]; exact hz)
    rw [hl]
    exact ⟨.ref _, _, inv_tupF I (xs := cutV xs lo hi) (Nat.le_trans (cutV_length xs lo hi) hz) ((r.drop (HT.sIx xs.length 0 lo)).take _) s.toks, rfl, q2 hw _ _ (I.hok.fresh (Nat.le_refl _)) rfl⟩
theorem call_tupleF : CallR X (.type "tuple") (fun vs H Q => ∃ p ys, vs = [.ref p] ∧ SqL X.K H p ys ∧ ∀ l o, H l = none -> o.dict = none -> Q (.ref l) (upd H l (.frz o (.tup ys)))) := by
  intro pins s σ H vs us Q I r h
  obtain ⟨p, ys, rfl, hq, q⟩ := h
  obtain ⟨u, rfl, rx⟩ := vals1 r
  cases rx
  obtain ⟨ws, r', pl, hz⟩ := I.list hq
  have hl := r'.length
  refine call_tuple_list pl.isList (fun h' kp => ?_) (by simp only [List.size_toArray]; omega)
  have I1 : Inv X pins σ H { s with heap := h' } := I.kept (t' := s.toks) kp
  exact ⟨.ref _, _, inv_tupF I1 (xs := ys) hz r' s.toks, rfl, q _ _ (I1.hok.fresh (Nat.le_refl _)) rfl⟩
def tTupF (t : TA) : TE := fun σ H Q => t σ H fun xs H1 => xs.length ≤ sizeLine ∧ ∀ p o, H1 p = none -> o.dict = none -> Q (.ref p) (upd H1 p (.frz o (.tup xs)))
theorem pe_tupF {es : List Expr} {t : TA} {k : Nat} {pos : Pos} (h : PA X es t) : PE X (.Tuple es k pos) (tTupF t) := by
  refine ⟨fun pins s σ H Q I hq => ?_⟩
  refine wpAny_Tuple_spliced (thn (h.run pos pins s σ H _ I hq) fun us s1 ⟨xs, H1, I1, r, z, q⟩ => ⟨(by rw [← r.length]; exact z), ?_⟩)
  exact ⟨.ref _, _, inv_tupF I1 (xs := xs) z r s1.toks, rfl, q _ _ (I1.hok.fresh (Nat.le_refl _)) rfl⟩
end
section
variable {X : Cx}
/-- list + list, any two that are read -/
theorem op_catL : OpR X (binaryOp .Add) (fun x y H Q => ∃ a b xs ys, x = .ref a ∧ y = .ref b ∧ SqL X.K H a xs ∧ SqL X.K H b ys ∧ xs.length + ys.length ≤ sizeLine ∧ ∀ p, H p = none -> Q (.ref p) (upd H p (.lst (xs ++ ys)))) := by
  intro pins s σ H x y v u Q I rx ry h
  obtain ⟨l, b, xs, zs, rfl, rfl, hH, hB, hz, q⟩ := h
  cases rx
  cases ry
  obtain ⟨its, r, ⟨⟨cls, dd, data, sl⟩, n, ho, hc, _, hd⟩, hl⟩ := I.list hH
  obtain ⟨its2, r2, ⟨⟨cls2, dd2, data2, sl2⟩, n2, ho2, hc2, _, hd2⟩, hl2⟩ := I.list hB
  simp only at hc hd hc2 hd2
  subst hc hd hc2 hd2
  have e1 := r.length
  have e2 := r2.length
  have e : its.toArray ++ its2.toArray = (its ++ its2).toArray := by simp
  refine concat_meets ⟨_, ho, rfl⟩ ⟨_, ho2, rfl⟩ noFill_list_add seq_list_add PySem.F.slot_list_add PySem.F.entry_list_add (PySem.F.args_list_add_2 _ _) (list_addW l b its.toArray its2.toArray n n2 dd dd2 sl sl2 (by rw [List.size_toArray, List.size_toArray]; omega)) ⟨ho, ho2, ?_⟩
  rw [e]
  exact ⟨.ref _, _, I.laid (t' := s.toks) (o := .lst (xs ++ zs)) (fun b ob q => Heap.get?_push_of_some _ q) (Nat.le_refl _) ⟨by rw [List.length_append]; omega, its ++ its2, 0, r.append r2, Heap.get?_push_size _ rfl⟩, rfl, q _ (I.hok.fresh (Nat.le_refl _))⟩

theorem foldl_flat : ∀ (l : List (Array Nat)) (a : Array Nat), (l.foldl (· ++ ·) a).toList = a.toList ++ (l.map Array.toList).flatten
  | [], a => by simp
  | b :: r, a => by rw [List.foldl_cons, foldl_flat r]; simp
theorem repS_eq (x : Str) (n : Int) : (⟨(List.replicate n.toNat x.cps).foldl (· ++ ·) #[]⟩ : Str) = repS x n := by
  unfold repS
  congr 1
  apply Array.toList_inj.mp
  rw [foldl_flat]
  simp
theorem op_mul_strD : OpR X (binaryOp .Mult) (fun x y H Q => ∃ z n, x = .str z ∧ y = .int n ∧ 0 ≤ n ∧ n ≤ 1000000 ∧ z.length * n.toNat ≤ sizeLine ∧ Q (.str (repS z n)) H) := by
  intro pins s σ H x y v u Q I rx ry h
  obtain ⟨z, n, rfl, rfl, h0, h1, hz, q⟩ := h
  obtain ⟨t, rfl⟩ := rx
  obtain ⟨t', rfl⟩ := ry
  have e2 : sizeLine = 16777216 := by decide
  refine P.mul_str ?_ (fun hn hx => ?_) (fun hn hx => ?_) ?_
  · rw [decide_eq_false (by omega), decide_eq_false (by omega)]; rfl
  · have hl : 1 ≤ n.toNat := by omega
    have h2 : z.length ≤ 16777216 := by
      have h3 : z.length * 1 ≤ z.length * n.toNat := Nat.mul_le_mul_left _ hl
      omega
    have h4 : (16777216 : Int) ≤ (2 ^ 63 - 1) / n := by
      rw [Int.le_ediv_iff_mul_le (by omega)]
      have : (16777216 : Int) * n ≤ 16777216 * 1000000 := Int.mul_le_mul_of_nonneg_left h1 (by omega)
      omega
    omega
  · unfold Builtin.Str.tooLong
    exact decide_eq_false (by omega)
  · by_cases hn : n < 1
    · rw [if_pos hn]
      obtain rfl : n = 0 := by omega
      exact ⟨by decide, ⟨.str _, H, I.tok _, ⟨_, rfl⟩, q⟩⟩
    · rw [if_neg hn]
      by_cases hx : (n == 1 || z.length == 0) = true
      · rw [if_pos hx]
        have e : repS z n = z := by
          unfold repS
          rw [Bool.or_eq_true] at hx
          rcases hx with hx | hx
          · obtain rfl : n = 1 := by simpa using hx
            simp
          · have hz0 : z.cps.toList = [] := by
              have : z.cps.size = 0 := by simpa [Str.length] using hx
              exact List.eq_nil_of_length_eq_zero (by simpa using this)
            obtain ⟨⟨l⟩⟩ := z
            simp only at hz0
            subst hz0
            simp
        rw [e] at q
        exact ⟨.str _, H, I, ⟨_, rfl⟩, q⟩
      · rw [if_neg hx, repS_eq]
        refine ⟨?_, ⟨.str _, H, I.tok _, ⟨_, rfl⟩, q⟩⟩
        have e : (repS z n).length = n.toNat * z.length := by
          unfold repS Str.length
          simp
        rw [e, Nat.mul_comm]
        exact hz
theorem mulOk_ok {i j : Int} (h : mulOk i j = true) : CMul i j := by
  unfold mulOk at h
  simp only [Bool.or_eq_true, sizeB_iff] at h
  rcases h with h | h
  · exact .inl ⟨by have := h.1; omega, by have := h.2; omega⟩
  · exact .inr ⟨by have := h.1; omega, by have := h.2; omega⟩
theorem opBin (op : Operator) : OpR X (binaryOp op) (rV2 X.K (binD op)) := by
  intro pins s σ H v w vv ww Q I rv rw' h
  obtain ⟨F, d, e, r, sF, hd, he, hb, q⟩ := h
  have two_int : ∀ {i j : Int}, d = .int i -> e = .int j -> v = .int i ∧ w = .int j := fun e1 e2 => by
    subst e1 e2; exact ⟨hd.int, he.int⟩
  cases op with
  | Add =>
    cases d with
    | int i =>
      cases e with
      | int j =>
        obtain ⟨rfl, rfl⟩ := two_int rfl rfl
        cases hb
        exact op_add pins s σ H _ _ vv ww Q I rv rw' ⟨i, j, rfl, rfl, fin_pure sF q rfl (.int _)⟩
      | _ => cases hb
    | str i =>
      cases e with
      | str j =>
        obtain rfl := hd.str
        obtain rfl := he.str
        simp only [binD] at hb
        split at hb
        · rename_i hz
          cases hb
          exact op_add_str pins s σ H _ _ vv ww Q I rv rw' ⟨i, j, rfl, rfl, hz, fin_pure sF q rfl (.str _)⟩
        · cases hb
      | _ => cases hb
    | tuple xs =>
      cases e with
      | tuple ys =>
        obtain ⟨a, us, rfl, h1, t1, D1⟩ := hd.tup sF
        obtain ⟨b, ws, rfl, h2, t2, D2⟩ := he.tup sF
        simp only [binD] at hb
        split at hb
        · rename_i hz
          cases hb
          have l1 := t1.length
          have l2 := t2.length
          refine op_catF pins s σ H _ _ vv ww Q I rv rw' ⟨a, b, us, ws, rfl, rfl, h1, h2, by omega, fun z => ?_, fun z z2 => ?_, fun z z2 p o np ho => fin_tup sF q rfl (t1.append t2) np ho⟩
          · subst z
            cases t1
            exact fin_pure sF q rfl D2
          · subst z2
            cases t2
            exact fin_pure sF q (by rw [List.append_nil]) D1
        · cases hb
      | _ => cases hb
    | list xs =>
      cases e with
      | list ys =>
        obtain ⟨a, us, rfl, h1, t1⟩ := hd.list sF
        obtain ⟨b, ws, rfl, h2, t2⟩ := he.list sF
        simp only [binD] at hb
        split at hb
        · rename_i hz
          cases hb
          have l1 := t1.length
          have l2 := t2.length
          exact op_catL pins s σ H _ _ vv ww Q I rv rw' ⟨a, b, us, ws, rfl, rfl, h1, h2, by omega, fun p np => fin_lst sF q rfl (t1.append t2) np⟩
        · cases hb
      | _ => cases hb
    | _ => cases hb
  | Sub =>
    cases d with
    | int i =>
      cases e with
      | int j =>
        obtain ⟨rfl, rfl⟩ := two_int rfl rfl
        cases hb
        exact op_sub pins s σ H _ _ vv ww Q I rv rw' ⟨i, j, rfl, rfl, fin_pure sF q rfl (.int _)⟩
      | _ => cases hb
    | _ => cases hb
  | Mult =>
    cases d with
    | int i =>
      cases e with
      | int j =>
        obtain ⟨rfl, rfl⟩ := two_int rfl rfl
        simp only [binD] at hb
        split at hb
        · rename_i hz
          cases hb
          exact op_mul pins s σ H _ _ vv ww Q I rv rw' ⟨i, j, rfl, rfl, mulOk_ok hz, fin_pure sF q rfl (.int _)⟩
        · cases hb
      | _ => cases hb
    | str i =>
      cases e with
      | int j =>
        obtain rfl := hd.str
        obtain rfl := he.int
        simp only [binD] at hb
        split at hb
        · rename_i hz
          cases hb
          exact op_mul_strD pins s σ H _ _ vv ww Q I rv rw' ⟨i, j, rfl, rfl, hz.1, hz.2.1, hz.2.2, fin_pure sF q rfl (.str _)⟩
        · cases hb
      | _ => cases hb
    | tuple xs =>
      cases e with
      | int j =>
        obtain ⟨a, us, rfl, h1, t1, D1⟩ := hd.tup sF
        obtain rfl := he.int
        simp only [binD] at hb
        split at hb
        · cases hb
        · rename_i hne
          have hu : us ≠ [] := fun z => by
            subst z
            cases t1
            exact hne rfl
          split at hb
          · rename_i hj
            cases hb
            exact op_mulT pins s σ H _ _ vv ww Q I rv rw' ⟨a, us, j, rfl, rfl, h1, hu, .inl ⟨hj, fin_pure sF q rfl D1⟩⟩
          · split at hb
            · rename_i hj
              cases hb
              exact op_mulT pins s σ H _ _ vv ww Q I rv rw' ⟨a, us, j, rfl, rfl, h1, hu, .inr ⟨hj, fun p o np ho => fin_tup sF q rfl .nil np ho⟩⟩
            · cases hb
      | _ => cases hb
    | _ => cases hb
  | FloorDiv =>
    cases d with
    | int i =>
      cases e with
      | int j =>
        obtain ⟨rfl, rfl⟩ := two_int rfl rfl
        simp only [binD] at hb
        split at hb
        · rename_i hz
          cases hb
          have hz2 : CDivW i j := by
            unfold divOk at hz
            simp only [Bool.and_eq_true, decide_eq_true_eq] at hz
            exact hz
          exact op_fdivW pins s σ H _ _ vv ww Q I rv rw' ⟨i, j, rfl, rfl, hz2, fin_pure sF q rfl (.int _)⟩
        · cases hb
      | _ => cases hb
    | _ => cases hb
  | Mod =>
    cases d with
    | int i =>
      cases e with
      | int j =>
        obtain ⟨rfl, rfl⟩ := two_int rfl rfl
        simp only [binD] at hb
        split at hb
        · rename_i hz
          cases hb
          exact op_mod pins s σ H _ _ vv ww Q I rv rw' ⟨i, j, rfl, rfl, hz, fin_pure sF q rfl (.int _)⟩
        · cases hb
      | _ => cases hb
    | _ => cases hb
  | Pow =>
    cases d with
    | int i =>
      cases e with
      | int j =>
        obtain ⟨rfl, rfl⟩ := two_int rfl rfl
        simp only [binD] at hb
        split at hb
        · rename_i hz
          cases hb
          exact op_pow pins s σ H _ _ vv ww Q I rv rw' ⟨i, j, rfl, rfl, hz, fin_pure sF q rfl (.int _)⟩
        · cases hb
      | _ => cases hb
    | _ => cases hb
  | _ => cases d <;> cases e <;> cases hb

theorem isOne_eq {s : Str} {c : Nat} (h : isOne s = some c) : s = ⟨#[c]⟩ := by
  unfold isOne at h
  split at h
  · rename_i z
    cases h
    cases s
    rename_i a
    congr 1
    exact Array.toList_inj.mp z
  · cases h
section
variable {pins : List (Addr × Obj)} {σ : L2.St} {F H : Hp} {s : Shared} {v : V} {u : Value} {d : D}
theorem RdV.reads (I : Inv X pins σ H s) (sF : Same F H) (h : RdV X.K F H v d) (r : RelV v u) (p : d.plain = true) : ∃ as, Reads s.heap u d as :=
  Dp.reads I d v u ((h.whole sF).dp p) r
end
theorem eqOk_of {d : D} (h : eqOk d = true) : d.plain = true ∧ d.depth ≤ 64 := by
  unfold eqOk at h
  simp only [Bool.and_eq_true, decide_eq_true_eq] at h
  exact h
theorem map_pb {o : Option Bool} {r : Rv} (h : (o.map fun b => Rv.pure (.bool b)) = some r) : ∃ b, o = some b ∧ r = .pure (.bool b) := by
  cases o with
  | none => cases h
  | some b => cases h; exact ⟨b, rfl, rfl⟩
theorem map_nb {o : Option Bool} {b : Bool} (h : o.map (!·) = some b) : ∃ c, o = some c ∧ b = !c := by
  cases o with
  | none => cases h
  | some c => cases h; exact ⟨c, rfl, rfl⟩
theorem dec_non {v : V} {d : D} {K : PySem.W.Frag} {F H : Hp} (h : RdV K F H v d) : decide (v = .non) = isNone d := by
  rcases h with h | ⟨a, e, o⟩
  · cases h <;> rfl
  · subst e
    cases d <;> first | rfl | exact o.elim
theorem ordOk_of {d e : D} (h : ordOk d e = true) : d.plain = true ∧ e.plain = true ∧ PySem.W.alike d e = true ∧ d.depth ≤ 64 := by
  unfold ordOk at h
  simp only [Bool.and_eq_true, decide_eq_true_eq] at h
  exact h
theorem RdV.key {K : PySem.W.Frag} {F H : Hp} {v : V} {d : D} {k : Key} (h : RdV K F H v d) (e : keyD d = some k) : v = kV k := by
  have z := keyD_eq e
  subst z
  cases k with
  | inl i => exact h.int
  | inr x => exact h.str
theorem opCmp (op : CmpOp) (hu : X.A.units + 65 < cLine) : OpR X (compareOp op) (rV2 X.K fun d e => (cmpD op d e).map fun b => .pure (.bool b)) := by
  intro pins s σ H v w vv ww Q I rv rw' h
  obtain ⟨F, d, e, r, sF, hd, he, hb0, q⟩ := h
  obtain ⟨b, hb, rfl⟩ := map_pb hb0
  clear hb0
  have fin : ∀ {c : Bool}, c = b -> EP X pins σ Q (.bool c) s := fun z => by
    subst z
    exact ⟨.bl _, H, I, rfl, fin_pure sF q rfl (.bl _)⟩
  have fin2 : Q (.bl b) H := fin_pure sF q rfl (.bl _)
  have room : ∀ {m n : Nat}, n ≤ 64 -> X.A.units + min m n < cLine := fun {m n} z => by
    have := Nat.min_le_right m n
    omega
  have room1 : ∀ {m n : Nat}, n ≤ 64 -> X.A.units + 1 + min m n < cLine := fun {m n} z => by
    have := Nat.min_le_right m n
    omega
  have ord : ∀ {op}, ordD op d e = some b -> wpAny (model X.prog X.w) X.A (compareOp op vv ww) (EP X pins σ Q) X.xe s := fun {op} ho => by
    cases op with
    | Lt =>
      cases d with
      | int i => cases e with
        | int j => obtain rfl := hd.int; obtain rfl := he.int; cases ho; exact op_lt pins s σ H _ _ vv ww Q I rv rw' ⟨i, j, rfl, rfl, fin2⟩
        | _ => cases ho
      | str i => cases e with
        | str j => obtain rfl := hd.str; obtain rfl := he.str; cases ho; exact op_lt_str pins s σ H _ _ vv ww Q I rv rw' ⟨i, j, rfl, rfl, fin2⟩
        | _ => cases ho
      | tuple i => cases e with
        | tuple j =>
          simp only [ordD] at ho
          split at ho
          · rename_i z
            cases ho
            obtain ⟨p1, p2, al, dp⟩ := ordOk_of z
            obtain ⟨as, r1⟩ := hd.reads I sF rv p1
            obtain ⟨bs, r2⟩ := he.reads I sF rw' p2
            exact PySem.W.lt_data r1 r2 al (fun z => by cases z) (by have := Nat.min_le_left (PyData.tuple i).depth (PyData.tuple j).depth; omega) (fin rfl)
          · cases ho
        | _ => cases ho
      | _ => cases e <;> cases ho
    | LtE =>
      cases d with
      | int i => cases e with
        | int j => obtain rfl := hd.int; obtain rfl := he.int; cases ho; exact op_le pins s σ H _ _ vv ww Q I rv rw' ⟨i, j, rfl, rfl, fin2⟩
        | _ => cases ho
      | str i => cases e with
        | str j => obtain rfl := hd.str; obtain rfl := he.str; cases ho; exact op_le_str pins s σ H _ _ vv ww Q I rv rw' ⟨i, j, rfl, rfl, fin2⟩
        | _ => cases ho
      | tuple i => cases e with
        | tuple j =>
          simp only [ordD] at ho
          split at ho
          · rename_i z
            cases ho
            obtain ⟨p1, p2, al, dp⟩ := ordOk_of z
            obtain ⟨as, r1⟩ := hd.reads I sF rv p1
            obtain ⟨bs, r2⟩ := he.reads I sF rw' p2
            exact PySem.W.le_data r1 r2 al (fun z => by cases z) (by have := Nat.min_le_left (PyData.tuple i).depth (PyData.tuple j).depth; omega) (fin rfl)
          · cases ho
        | _ => cases ho
      | _ => cases e <;> cases ho
    | Gt =>
      cases d with
      | int i => cases e with
        | int j => obtain rfl := hd.int; obtain rfl := he.int; cases ho; exact op_gt pins s σ H _ _ vv ww Q I rv rw' ⟨i, j, rfl, rfl, fin2⟩
        | _ => cases ho
      | _ => cases ho
    | GtE =>
      cases d with
      | int i => cases e with
        | int j => obtain rfl := hd.int; obtain rfl := he.int; cases ho; exact op_ge pins s σ H _ _ vv ww Q I rv rw' ⟨i, j, rfl, rfl, fin2⟩
        | _ => cases ho
      | _ => cases ho
    | _ => cases ho
  have inn : ∀ {op} {b' : Bool}, (op = .In ∧ b' = b) ∨ (op = .NotIn ∧ b = !b') -> inD d e = some b' -> wpAny (model X.prog X.w) X.A (compareOp op vv ww) (EP X pins σ Q) X.xe s := fun {op b'} hop ho => by
    cases e with
    | list xs =>
      simp only [inD] at ho
      split at ho
      · rename_i hz
        rw [Bool.and_eq_true] at hz
        cases ho
        obtain ⟨p1, p2⟩ := eqOk_of hz.1
        obtain ⟨p3, _⟩ := eqOk_of hz.2
        obtain ⟨as, r1⟩ := hd.reads I sF rv p1
        obtain ⟨bs, r2⟩ := he.reads I sF rw' p3
        have p3 : PyData.plainAll xs = true := by simpa [PyData.plain] using p3
        rcases hop with ⟨rfl, e⟩ | ⟨rfl, e⟩
        · exact SeqAt.in_list_data r2 r1 p3 p1 (room1 p2) (fin e)
        · exact SeqAt.notIn_list_data r2 r1 p3 p1 (room1 p2) (fin e.symm)
      · cases ho
    | tuple xs =>
      simp only [inD] at ho
      split at ho
      · rename_i hz
        rw [Bool.and_eq_true] at hz
        cases ho
        obtain ⟨p1, p2⟩ := eqOk_of hz.1
        obtain ⟨p3, _⟩ := eqOk_of hz.2
        obtain ⟨as, r1⟩ := hd.reads I sF rv p1
        obtain ⟨bs, r2⟩ := he.reads I sF rw' p3
        have p3 : PyData.plainAll xs = true := by simpa [PyData.plain] using p3
        rcases hop with ⟨rfl, e⟩ | ⟨rfl, e⟩
        · exact SeqAt.in_tuple_data r2 r1 p3 p1 (room1 p2) (fin e)
        · exact SeqAt.notIn_tuple_data r2 r1 p3 p1 (room1 p2) (fin e.symm)
      · cases ho
    | str t =>
      cases d with
      | str z =>
        simp only [inD] at ho
        split at ho
        · rename_i c hc
          cases ho
          obtain rfl := isOne_eq hc
          obtain rfl := hd.str
          obtain rfl := he.str
          rcases hop with ⟨rfl, e⟩ | ⟨rfl, e⟩
          · exact op_in_sign pins s σ H _ _ vv ww Q I rv rw' ⟨c, t, rfl, rfl, by unfold hasCh at e; rw [e]; exact fin2⟩
          · exact op_notIn_sign pins s σ H _ _ vv ww Q I rv rw' ⟨c, t, rfl, rfl, by unfold hasCh at e; rw [← e]; exact fin2⟩
        · cases ho
      | _ => cases ho
    | dict kvs =>
      simp only [inD] at ho
      cases ek : keyD d with
      | none => rw [ek] at ho; cases ho
      | some k =>
        rw [ek] at ho
        obtain rfl := hd.key ek
        obtain ⟨a, ks, rfl, h1, t1⟩ := he.dict sF
        obtain rfl : ww = Value.ref a := rw'
        have ev : (valV ks k).isSome = (getKV kvs k).isSome := by
          rcases t1.val k with ⟨z1, z2⟩ | ⟨x, y, z1, z2, _⟩ <;> rw [z1, z2] <;> rfl
        have ho : (getKV kvs k).isSome = b' := by cases ho; rfl
        have g : DGet H a (kV k) (valV ks k) := .inl ⟨ks, k, .inl h1, rfl, rfl⟩
        rcases hop with ⟨rfl, e⟩ | ⟨rfl, e⟩
        · exact d_in (by omega) I g rv fun s3 I3 => ⟨.bl _, H, I3, rfl, by rw [ev, ho, e]; exact fin2⟩
        · exact d_notIn (by omega) I g rv fun s3 I3 => ⟨.bl _, H, I3, rfl, by rw [ev, ho, ← e]; exact fin2⟩
    | _ => cases ho
  cases op with
  | Eq =>
    have hb : eqD d e = some b := hb
    unfold eqD at hb
    split at hb
    · rename_i hz
      rw [Bool.and_eq_true] at hz
      cases hb
      obtain ⟨p1, p2⟩ := eqOk_of hz.1
      obtain ⟨p3, p4⟩ := eqOk_of hz.2
      obtain ⟨as, r1⟩ := hd.reads I sF rv p1
      obtain ⟨bs, r2⟩ := he.reads I sF rw' p3
      exact SeqAt.eq_plain r1 r2 p1 p3 (room p4) (fin rfl)
    · cases hb
  | NotEq =>
    obtain ⟨c, hb, hc⟩ := map_nb (show (eqD d e).map (!·) = some b from hb)
    unfold eqD at hb
    split at hb
    · rename_i hz
      rw [Bool.and_eq_true] at hz
      cases hb
      obtain ⟨p1, p2⟩ := eqOk_of hz.1
      obtain ⟨p3, p4⟩ := eqOk_of hz.2
      obtain ⟨as, r1⟩ := hd.reads I sF rv p1
      obtain ⟨bs, r2⟩ := he.reads I sF rw' p3
      exact SeqAt.ne_plain r1 r2 p1 p3 (room p4) (fin hc.symm)
    · cases hb
  | In => exact inn (.inl ⟨rfl, rfl⟩) hb
  | NotIn =>
    obtain ⟨c, hb, hc⟩ := map_nb (show (inD d e).map (!·) = some b from hb)
    exact inn (.inr ⟨rfl, hc⟩) hb
  | Is =>
    cases e with
    | none =>
      have hb : some (isNone d) = some b := hb
      cases hb
      obtain rfl := he.non
      exact op_isN pins s σ H _ _ vv ww Q I rv rw' ⟨rfl, by rw [dec_non hd]; exact fin2⟩
    | _ => exact ord (op := .Is) hb
  | IsNot =>
    cases e with
    | none =>
      have hb : some (!isNone d) = some b := hb
      cases hb
      obtain rfl := he.non
      exact op_notN pins s σ H _ _ vv ww Q I rv rw' ⟨rfl, by rw [dec_non hd]; exact fin2⟩
    | _ => exact ord (op := .IsNot) hb
  | Lt => exact ord hb
  | LtE => exact ord hb
  | Gt => exact ord hb
  | GtE => exact ord hb
theorem atI_map {α β : Type} {xs : List α} {ys : List β} {i : Int} {y : β} (hl : xs.length = ys.length) (h : atI ys i = some y) : ∃ (j : Nat) (x : α), ys[j]? = some y ∧ xs[j]? = some x ∧ atI xs i = some x := by
  unfold atI at h ⊢
  rw [hl]
  cases e : ixN ys.length i with
  | none => rw [e] at h; cases h
  | some j =>
    rw [e] at h
    have h : ys[j]? = some y := h
    have hj : j < ys.length := (List.getElem?_eq_some_iff.mp h).1
    refine ⟨j, xs[j], h, List.getElem?_eq_getElem (by omega), ?_⟩
    show xs[j]? = _
    exact List.getElem?_eq_getElem (by omega)
theorem map_p {o : Option D} {r : Rv} (h : o.map Rv.pure = some r) : ∃ d, o = some d ∧ r = .pure d := by
  cases o with
  | none => cases h
  | some b => cases h; exact ⟨b, rfl, rfl⟩
/-- d[k], there -/
theorem ix_dict : IxR X (fun x y H Q => ∃ a kvs k v, x = .ref a ∧ y = kV k ∧ Rd H a (.dK kvs) ∧ valV kvs k = some v ∧ Q v H) := by
  intro value slice pins s σ H x y v u Q I rx ry h hs
  obtain ⟨a, kvs, k, r, rfl, rfl, e, l, q⟩ := h
  obtain rfl : v = Value.ref a := rx
  obtain ⟨z, hd, vs, rel, dd⟩ := dk_rd I.hok e
  obtain ⟨w', hw, rw'⟩ := RelO.some_of (v := r) (o := valueAt vs k) (by rw [← l]; exact rel.val k)
  exact tail_any dd.typeIs PySem.F.slot_dict_getitem.lookup (wpAny_getItem_of (kV_is ry) dd.mapOf hw ⟨r, H, I.tok _, rw', q⟩) hs
theorem opIdx : IxR X (rV2 X.K fun d k => (idxD d k).map .pure) := by
  intro value slice pins s σ H v w vv ww Q I rv rw' h hs
  obtain ⟨F, d, e, r, sF, hd, he, hb0, q⟩ := h
  obtain ⟨y, hb, rfl⟩ := map_p hb0
  clear hb0
  cases d with
  | list xs => cases e with
    | int i =>
      obtain ⟨a, us, rfl, h1, t1⟩ := hd.list sF
      obtain rfl := he.int
      obtain ⟨j, u, g1, g2, g3⟩ := atI_map t1.length (show atI xs i = some y from hb)
      obtain ⟨u', g4, dy⟩ := t1.get g1
      rw [g2] at g4; cases g4
      exact ix_list value slice pins s σ H _ _ vv ww Q I rv rw' ⟨a, us, i, u, rfl, rfl, h1, g3, fin_pure sF q rfl dy⟩ hs
    | _ => cases hb
  | tuple xs => cases e with
    | int i =>
      obtain ⟨a, us, rfl, h1, t1, _⟩ := hd.tup sF
      obtain rfl := he.int
      obtain ⟨j, u, g1, g2, g3⟩ := atI_map t1.length (show atI xs i = some y from hb)
      obtain ⟨u', g4, dy⟩ := t1.get g1
      rw [g2] at g4; cases g4
      exact ix_tup value slice pins s σ H _ _ vv ww Q I rv rw' ⟨a, us, i, u, rfl, rfl, h1, g3, fin_pure sF q rfl dy⟩ hs
    | _ => cases hb
  | str z => cases e with
    | int i =>
      obtain rfl := hd.str
      obtain rfl := he.int
      simp only [idxD] at hb
      split at hb
      · rename_i hz
        cases hc : atI z.cps.toList i with
        | none => rw [hc] at hb; cases hb
        | some c =>
          rw [hc] at hb
          cases hb
          exact ix_str value slice pins s σ H _ _ vv ww Q I rv rw' ⟨z, i, c, rfl, rfl, hz, hc, fin_pure sF q rfl (.str _)⟩ hs
      · cases hb
    | _ => cases hb
  | dict xs =>
    obtain ⟨a, ks, rfl, h1, t1⟩ := hd.dict sF
    have hb : (keyD e).bind (getKV xs) = some y := by cases e <;> exact hb
    cases ek : keyD e with
    | none => rw [ek] at hb; cases hb
    | some k =>
      rw [ek] at hb
      have hb : getKV xs k = some y := hb
      obtain rfl := he.key ek
      rcases t1.val k with ⟨_, z⟩ | ⟨w, d2, z1, z2, z3⟩
      · rw [z] at hb; cases hb
      · rw [z2] at hb; cases hb
        exact ix_dict value slice pins s σ H _ _ vv ww Q I rv rw' ⟨a, ks, k, w, rfl, rfl, .inl h1, z1, fin_pure sF q rfl z3⟩ hs
  | _ => cases e <;> cases hb
theorem cutL_V (xs : List V) (lo hi : Option Int) : cutV xs lo hi = cutL xs lo hi := rfl
theorem DatL.cut {K : PySem.W.Frag} {F : Hp} {vs : List V} {ds : List D} (h : DatL K F vs ds) (lo hi : Option Int) : DatL K F (cutV vs lo hi) (cutL ds lo hi) := by
  unfold cutV cutL
  rw [h.length]
  exact (h.drop _).take _
theorem cutL_whole {α : Type} {xs : List α} {lo hi : Option Int} (h : HT.sIx xs.length 0 lo = 0 ∧ HT.sIx xs.length xs.length hi = xs.length) : cutL xs lo hi = xs := by
  unfold cutL
  rw [h.1, h.2, List.drop_zero, Nat.sub_zero, List.take_length]
def rSlD (K : PySem.W.Frag) : V -> Option Int -> Option Int -> Hp -> VK -> Prop := fun v lo hi H Q => ∃ F d r, Same F H ∧ RdV K F H v d ∧ slcD d lo hi = some r ∧ ∀ F' H' u, Grw F H F' H' -> ResN K H F' H' u r -> Q u H'
theorem opSlc : SlR X (rSlD X.K) := by
  intro pins s σ H v vv vl vu lo hi sl Q I rv hs pl pu h
  obtain ⟨F, d, r, sF, hd, hb, q⟩ := h
  cases d with
  | str z =>
    obtain rfl := hd.str
    simp only [slcD] at hb
    split at hb
    · rename_i hz
      cases hb
      exact sl_str pins s σ H _ vv vl vu lo hi sl Q I rv hs pl pu ⟨z, rfl, hz, fin_pure sF q rfl (.str _)⟩
    · cases hb
  | list xs =>
    obtain ⟨a, us, rfl, h1, t1⟩ := hd.list sF
    cases hb
    exact sl_list pins s σ H _ vv vl vu lo hi sl Q I rv hs pl pu ⟨a, us, rfl, h1, fun p np => fin_lst sF q rfl (t1.cut lo hi) np⟩
  | tuple xs =>
    obtain ⟨a, us, rfl, h1, t1, D1⟩ := hd.tup sF
    cases hb
    refine sl_tupF pins s σ H _ vv vl vu lo hi sl Q I rv hs pl pu ⟨a, us, rfl, h1, fun z => ?_, fun _ p o np ho => fin_tup sF q rfl (t1.cut lo hi) np ho⟩
    rw [t1.length] at z
    exact fin_pure sF q (by rw [cutL_whole z]) D1
  | _ => cases hb
end
end DE

/-! DS0: dict(pairs), list(d). -/
namespace DE
open PySem PySem.Spec PyProof.Rows L2
section
variable {X : Cx} {pins : List (Addr × Obj)} {σ : L2.St} {H : Hp} {s : Shared}
theorem bare_of {a : Addr} {xs : List V} (I : Inv X pins σ H s) (h : SqU X.K H a xs) : ∃ (us : List Value) (o : Obj) (n : Nat), Vals xs us ∧ s.heap.get? a = some o ∧ o.cls = .type "tuple" ∧ o.dict = none ∧ o.data = .seq us.toArray n ∧ xs.length ≤ sizeLine := by
  obtain ⟨us, r, ⟨o, ho, hc, n, hd⟩, hz⟩ := I.tuple h.1
  refine ⟨us, o, n, r, ho, hc, ?_, hd, hz⟩
  rcases h.2 with ⟨o2, u, e, q⟩ | ⟨o2, e, q⟩
  · have z := (I.hok a _ e).1
    rw [ho] at z; cases z; exact q
  · have z := I.kIn a o2 e
    rw [ho] at z; cases z; exact q
theorem prs_of (I : Inv X pins σ H s) : ∀ {ps : List Addr} {kvs : List (Key × V)}, Paired (fun p kv => SqT X.K H p [kV kv.1, kv.2]) ps kvs ->
    ∃ (ws : List (Value × Value)) (prs : List (Key × Value)), KV kvs prs ∧ prs.length = ps.length ∧ ws.length = ps.length ∧ ∀ (j : Nat) (u y : Value), ws[j]? = some (u, y) -> ∃ (b : Addr) (k : Key), ps[j]? = some b ∧ IsTup s.heap b #[u, y] ∧ prs[j]? = some (k, y) ∧ (mixKind X.prog X.w).is k u = true
  | _, _, .nil => ⟨[], [], .nil, rfl, rfl, fun j u y e => by simp at e⟩
  | _, _, .cons (a := p) (b := kv) h t => by
    obtain ⟨ws, prs, r, l1, l2, q⟩ := prs_of I t
    obtain ⟨its, rv, ht, _⟩ := I.tuple h
    obtain ⟨u, y, ei, ru, ry⟩ := vals2 rv
    subst ei
    refine ⟨(u, y) :: ws, (kv.1, y) :: prs, .cons ⟨rfl, ry⟩ r, by rw [List.length_cons, List.length_cons, l1], by rw [List.length_cons, List.length_cons, l2], fun j u' y' e => ?_⟩
    cases j with
    | zero =>
      have e' : (u, y) = (u', y') := Option.some.inj e
      cases e'
      exact ⟨p, kv.1, rfl, ht, rfl, kV_is ru⟩
    | succ j =>
      obtain ⟨b, k, e1, e2, e3, e4⟩ := q j u' y' (by simpa using e)
      exact ⟨b, k, by simpa using e1, e2, by simpa using e3, e4⟩
/-- dict(t), t a tuple of pairs -/
theorem call_dictT (hcalm : X.calm = true) : CallR X (.type "dict") (fun xs H Q => ∃ (a : Addr) (ps : List Addr) (kvs : List (Key × V)), xs = [.ref a] ∧ SqU X.K H a (ps.map V.ref) ∧ Paired (fun p kv => SqT X.K H p [kV kv.1, kv.2]) ps kvs ∧
    ∀ p, H p = none -> Q (.ref p) (upd H p (.dK (mergeK [] kvs)))) := by
  intro pins s σ H xs us Q I r q
  obtain ⟨a, ps, kvs, ex, hq, hp, q⟩ := q
  subst ex
  obtain ⟨u, eu, rx⟩ := vals1 r
  subst eu
  cases rx
  obtain ⟨its, o, n, rv, ho, hc, hd, hdat, hz⟩ := bare_of I hq
  have ei := refs_at rv
  subst ei
  rw [List.length_map] at hz
  obtain ⟨ws, prs, rel, l1, l2, hpr⟩ := prs_of I hp
  refine PySem.call_dict_pairs (knd := mixKind X.prog X.w) (kvs := prs) (PairArg.tuple a (ps.map Value.ref).toArray (fun j => (ps[j]?).getD 0) ws) (I.ok.hd hcalm) ⟨⟨o, n, ho, hc, hd, hdat⟩, ?_, fun j k v e => ?_⟩ ⟨by rw [l1, l2], fun i key v e => ?_⟩ (by rw [l2]; exact hz) fun h' tk hd' kp => ?_
  · simp [l2]
  · obtain ⟨b, k', e1, e2, _⟩ := hpr j k v e
    have e3 : (ps[j]?).getD 0 = b := by rw [e1]; rfl
    refine ⟨by simp [e1], .inl ?_⟩
    show s.heap.IsTuple ((ps[j]?).getD 0) #[k, v]
    rw [e3]
    exact e2
  · obtain ⟨b, k', _, _, e3, e4⟩ := hpr i key v e
    exact ⟨k', e3, e4⟩
  · have hm : (s.heap.objs.size == sysModules) = false := beq_eq_false_iff_ne.mpr (Nat.ne_of_gt I.big)
    have hlen : (mergeK [] kvs).length ≤ sizeLine := by
      have z := length_mergeK kvs []
      rw [List.length_nil, Nat.zero_add, rel.length, l1] at z
      exact Nat.le_trans z hz
    have J := I.laid (a := s.heap.objs.size) (o := .dK (mergeK [] kvs)) (h' := h') (t' := tk) (fun b o e => kp b o (by simp) e) (Nat.le_refl _) ⟨hlen, hm, merged [] prs, KV.merge rel .nil, hd'⟩
    exact ⟨.ref s.heap.objs.size, _, J, rfl, q _ (I.hok.fresh (Nat.le_refl _))⟩
/-- dict(d) -/
theorem call_dictD : CallR X (.type "dict") (fun xs H Q => ∃ (a : Addr) (kvs : List (Key × V)), xs = [.ref a] ∧ Rd H a (.dK kvs) ∧ ∀ p, H p = none -> Q (.ref p) (upd H p (.dK kvs))) := by
  intro pins s σ H xs us Q I r q
  obtain ⟨a, kvs, ex, e, q⟩ := q
  subst ex
  obtain ⟨u, eu, rx⟩ := vals1 r
  subst eu
  cases rx
  exact d_copyOf I e fun p s' np J => ⟨.ref p, _, J, rfl, q p np⟩
end
end DE

/-! DE5: built-in calls and methods over data. -/
namespace DE
open PySem PySem.Spec PyProof.Rows L2

theorem boolsOf_eq : ∀ {xs : List D} {bs : List Bool}, boolsOf xs = some bs -> xs = bs.map PyData.bool
  | [], _, h => by cases h; rfl
  | .bool b :: r, bs, h => by
    cases e : boolsOf r with
    | none => simp only [boolsOf, e] at h; cases h
    | some cs => simp only [boolsOf, e] at h; cases h; rw [boolsOf_eq e]; rfl
  | .none :: _, _, h => by cases h
  | .int _ :: _, _, h => by cases h
  | .str _ :: _, _, h => by cases h
  | .list _ :: _, _, h => by cases h
  | .tuple _ :: _, _, h => by cases h
  | .dict _ :: _, _, h => by cases h
theorem intsOf_eq : ∀ {xs : List D} {bs : List Int}, intsOf xs = some bs -> xs = bs.map PyData.int
  | [], _, h => by cases h; rfl
  | .int b :: r, bs, h => by
    cases e : intsOf r with
    | none => simp only [intsOf, e] at h; cases h
    | some cs => simp only [intsOf, e] at h; cases h; rw [intsOf_eq e]; rfl
  | .none :: _, _, h => by cases h
  | .bool _ :: _, _, h => by cases h
  | .str _ :: _, _, h => by cases h
  | .list _ :: _, _, h => by cases h
  | .tuple _ :: _, _, h => by cases h
  | .dict _ :: _, _, h => by cases h
theorem map_some {α β : Type} {o : Option α} {f : α -> β} {r : β} (h : o.map f = some r) : ∃ a, o = some a ∧ r = f a := by
  cases o with
  | none => cases h
  | some b => cases h; exact ⟨b, rfl, rfl⟩
theorem RdVs.one {K : PySem.W.Frag} {F H : Hp} {vs : List V} {d : D} (h : RdVs K F H vs [d]) : ∃ v, vs = [v] ∧ RdV K F H v d := by
  cases h with
  | cons a t => cases t; exact ⟨_, rfl, a⟩
section
variable {X : Cx}
theorem bltLen : CallR X (.builtin "len") (rVs X.K (bltD .len)) := by
  intro pins s σ H vs us Q I r h
  obtain ⟨F, ds, r0, sF, hds, hb, q⟩ := h
  match ds, hb with
  | [d], hb =>
    simp only [bltD] at hb
    obtain ⟨n, hn, rfl⟩ := map_some hb
    obtain ⟨v, rfl, hd⟩ := hds.one
    have fin : Q (.int n) H := fin_pure sF q rfl (.int _)
    have dct : ∀ xs, d = .dict xs -> wpAny (model X.prog X.w) X.A (call (.builtin "len") us) (EP X pins σ Q) X.xe s := fun xs z => by
      subst z
      obtain ⟨a, ks, rfl, h1, t⟩ := hd.dict sF
      cases hn
      rw [Vals.ref1 r]
      exact d_len I (.inl h1) fun t2 s' J => ⟨.int _, H, J, ⟨t2, by rw [t.len]⟩, fin⟩
    by_cases isd : ∃ xs, d = .dict xs
    · obtain ⟨xs, z⟩ := isd; exact dct xs z
    refine call_len pins s σ H [v] us Q I r ⟨v, n, rfl, ?_, fin⟩
    cases d with
    | str z =>
      obtain rfl := hd.str
      simp only [lenD] at hn
      split at hn
      · rename_i hz; cases hn; exact ⟨hz, rfl⟩
      · cases hn
    | list xs =>
      obtain ⟨a, ys, rfl, h1, t⟩ := hd.list sF
      cases hn
      exact .inl ⟨ys, h1, t.length.symm⟩
    | tuple xs =>
      obtain ⟨a, ys, rfl, h1, t, _⟩ := hd.tup sF
      cases hn
      exact .inr ⟨ys, h1, t.length.symm⟩
    | dict xs =>
      obtain ⟨a, ks, rfl, h1, t⟩ := hd.dict sF
      cases hn
      exact absurd ⟨_, rfl⟩ isd
    | _ => cases hn
theorem bltAbs : CallR X (.builtin "abs") (rVs X.K (bltD .abs)) := by
  intro pins s σ H vs us Q I r h
  obtain ⟨F, ds, r0, sF, hds, hb, q⟩ := h
  match ds, hb with
  | [.int i], hb =>
    obtain ⟨v, rfl, hd⟩ := hds.one
    obtain rfl := hd.int
    cases hb
    exact call_abs pins s σ H _ us Q I r ⟨i, rfl, fin_pure sF q rfl (.int _)⟩
theorem bltAll (hc : X.calm = true) : CallR X (.builtin "all") (rVs X.K (bltD .all)) := by
  intro pins s σ H vs us Q I r h
  obtain ⟨F, ds, r0, sF, hds, hb, q⟩ := h
  match ds, hb with
  | [.list xs], hb =>
    obtain ⟨bs, hn, rfl⟩ := map_some (show (boolsOf xs).map (fun bs => Rv.pure (.bool (bs.all id))) = some r0 from hb)
    obtain ⟨v, rfl, hd⟩ := hds.one
    obtain ⟨a, ys, rfl, h1, t⟩ := hd.list sF
    rw [boolsOf_eq hn] at t
    rw [t.bools] at h1
    exact cr_all hc pins s σ H _ us Q I r ⟨a, bs, rfl, h1, fin_pure sF q rfl (.bl _)⟩
theorem bltAny (hc : X.calm = true) : CallR X (.builtin "any") (rVs X.K (bltD .any)) := by
  intro pins s σ H vs us Q I r h
  obtain ⟨F, ds, r0, sF, hds, hb, q⟩ := h
  match ds, hb with
  | [.list xs], hb =>
    obtain ⟨bs, hn, rfl⟩ := map_some (show (boolsOf xs).map (fun bs => Rv.pure (.bool (bs.any id))) = some r0 from hb)
    obtain ⟨v, rfl, hd⟩ := hds.one
    obtain ⟨a, ys, rfl, h1, t⟩ := hd.list sF
    rw [boolsOf_eq hn] at t
    rw [t.bools] at h1
    exact cr_any hc pins s σ H _ us Q I r ⟨a, bs, rfl, h1, fin_pure sF q rfl (.bl _)⟩
theorem bltInt : CallR X (.type "int") (rVs X.K (bltD .int)) := by
  intro pins s σ H vs us Q I r h
  obtain ⟨F, ds, r0, sF, hds, hb, q⟩ := h
  match ds, hb with
  | [.int i], hb =>
    obtain ⟨v, rfl, hd⟩ := hds.one
    obtain rfl := hd.int
    cases hb
    exact call_int1 pins s σ H _ us Q I r (.inl ⟨i, rfl, fin_pure sF q rfl (.int _)⟩)
  | [.bool i], hb =>
    obtain ⟨v, rfl, hd⟩ := hds.one
    obtain rfl := hd.bl
    cases hb
    exact call_int1 pins s σ H _ us Q I r (.inr ⟨i, rfl, fin_pure sF q rfl (.int _)⟩)

theorem bltList (hc : X.calm = true) : CallR X (.type "list") (rVs X.K (bltD .list)) := by
  intro pins s σ H vs us Q I r h
  obtain ⟨F, ds, r0, sF, hds, hb, q⟩ := h
  match ds, hb with
  | [.list xs], hb =>
    obtain ⟨v, rfl, hd⟩ := hds.one
    obtain ⟨a, ys, rfl, h1, t⟩ := hd.list sF
    cases hb
    exact call_list_of pins s σ H _ us Q I r ⟨a, ys, rfl, .inl h1, fun p np => fin_lst sF q rfl t np⟩
  | [.tuple xs], hb =>
    obtain ⟨v, rfl, hd⟩ := hds.one
    obtain ⟨a, ys, rfl, h1, t, _⟩ := hd.tup sF
    cases hb
    exact call_list_of pins s σ H _ us Q I r ⟨a, ys, rfl, .inr h1, fun p np => fin_lst sF q rfl t np⟩
  | [.dict xs], hb =>
    obtain ⟨v, rfl, hd⟩ := hds.one
    obtain ⟨a, ks, rfl, h1, t⟩ := hd.dict sF
    cases hb
    exact call_list_dK hc pins s σ H _ us Q I r ⟨a, ks, rfl, h1, fun p np => fin_lst sF q rfl t.keys np⟩
theorem bltDict (hc : X.calm = true) : CallR X (.type "dict") (rVs X.K (bltD .dict)) := by
  intro pins s σ H vs us Q I r h
  obtain ⟨F, ds, r0, sF, hds, hb, q⟩ := h
  match ds, hb with
  | [.dict xs], hb =>
    obtain ⟨v, rfl, hd⟩ := hds.one
    obtain ⟨a, ks, rfl, h1, t⟩ := hd.dict sF
    cases hb
    exact call_dictD pins s σ H _ us Q I r ⟨a, ks, rfl, .inl h1, fun p np => fin_dct sF q rfl t np⟩
  | [.list xs], hb =>
    obtain ⟨md, hm, rfl⟩ := map_some (show (pairsOf xs).map (fun ps => Rv.own (.dict (mergeKV [] ps))) = some r0 from hb)
    obtain ⟨v, rfl, hd⟩ := hds.one
    obtain ⟨a, ys, rfl, h1, t⟩ := hd.list sF
    obtain ⟨ps, kvs, rfl, h2, h3⟩ := pairs_dat t hm
    exact call_dictP hc pins s σ H _ us Q I r ⟨a, ps, kvs, rfl, h1, Paired.mapP h2 fun _ _ z => sqT_mono sF z, fun p np => fin_dct sF q rfl (DatK.merge _ _ h3 .nil) np⟩
  | [.tuple xs], hb =>
    obtain ⟨md, hm, rfl⟩ := map_some (show (pairsOf xs).map (fun ps => Rv.own (.dict (mergeKV [] ps))) = some r0 from hb)
    obtain ⟨v, rfl, hd⟩ := hds.one
    have hw := hd.whole sF
    obtain ⟨a, ys, rfl, h1, t, D1⟩ := hd.tup sF
    cases D1 with
    | tup hq ht =>
      obtain ⟨ps, kvs, rfl, h2, h3⟩ := pairs_dat ht hm
      exact call_dictT hc pins s σ H _ us Q I r ⟨a, ps, kvs, rfl, sqU_mono sF hq, Paired.mapP h2 fun _ _ z => sqT_mono sF z, fun p np => fin_dct sF q rfl (DatK.merge _ _ h3 .nil) np⟩
theorem bltTuple : CallR X (.type "tuple") (rVs X.K (bltD .tuple)) := by
  intro pins s σ H vs us Q I r h
  obtain ⟨F, ds, r0, sF, hds, hb, q⟩ := h
  match ds, hb with
  | [.list xs], hb =>
    obtain ⟨v, rfl, hd⟩ := hds.one
    obtain ⟨a, ys, rfl, h1, t⟩ := hd.list sF
    cases hb
    exact call_tupleF pins s σ H _ us Q I r ⟨a, ys, rfl, h1, fun p o np ho => fin_tup sF q rfl t np ho⟩
  | [.tuple xs], hb =>
    obtain ⟨v, rfl, hd⟩ := hds.one
    obtain ⟨a, ys, rfl, h1, t, D⟩ := hd.tup sF
    cases hb
    exact call_tuple_of pins s σ H _ us Q I r ⟨a, ys, rfl, .inr ⟨h1, fin_pure sF q rfl D⟩⟩
theorem bltSum (hc : X.calm = true) : CallR X (.builtin "sum") (rVs X.K (bltD .sum)) := by
  intro pins s σ H vs us Q I r h
  obtain ⟨F, ds, r0, sF, hds, hb, q⟩ := h
  match ds, hb with
  | [.list xs], hb =>
    obtain ⟨ns, hn, rfl⟩ := map_some (show (intsOf xs).map (fun ns => Rv.pure (.int ns.sum)) = some r0 from hb)
    obtain ⟨v, rfl, hd⟩ := hds.one
    obtain ⟨a, ys, rfl, h1, t⟩ := hd.list sF
    rw [intsOf_eq hn] at t
    rw [t.ints] at h1
    exact cr_sum hc pins s σ H _ us Q I r ⟨a, ns, rfl, h1, fin_pure sF q rfl (.int _)⟩
theorem RdVs.twoV {K : PySem.W.Frag} {F H : Hp} {vs : List V} {d e : D} (h : RdVs K F H vs [d, e]) : ∃ v w, vs = [v, w] ∧ RdV K F H v d ∧ RdV K F H w e := by
  cases h with
  | cons a t => cases t with
    | cons b t => cases t; exact ⟨_, _, rfl, a, b⟩
theorem bltMax (hc : X.calm = true) : CallR X (.builtin "max") (rVs X.K (bltD .max)) := by
  intro pins s σ H vs us Q I r h
  obtain ⟨F, ds, r0, sF, hds, hb, q⟩ := h
  match ds, hb with
  | [.int i, .int j], hb =>
    obtain ⟨v, w, rfl, hd, he⟩ := hds.twoV
    obtain rfl := hd.int
    obtain rfl := he.int
    cases hb
    exact call_max2 hc pins s σ H _ us Q I r ⟨i, j, rfl, fin_pure sF q rfl (.int _)⟩
theorem bltMin (hc : X.calm = true) : CallR X (.builtin "min") (rVs X.K (bltD .min)) := by
  intro pins s σ H vs us Q I r h
  obtain ⟨F, ds, r0, sF, hds, hb, q⟩ := h
  match ds, hb with
  | [.int i, .int j], hb =>
    obtain ⟨v, w, rfl, hd, he⟩ := hds.twoV
    obtain rfl := hd.int
    obtain rfl := he.int
    cases hb
    exact call_min2 hc pins s σ H _ us Q I r ⟨i, j, rfl, fin_pure sF q rfl (.int _)⟩
theorem okKeys_of {ks : List D} (h : okKeys ks = true) : PyData.plainAll ks = true ∧ PySem.W.AllAlike ks ∧ PySem.W.Sortable ks ∧ ∀ k ∈ ks, k.depth ≤ 64 := by
  unfold okKeys at h
  simp only [Bool.and_eq_true, Bool.or_eq_true, List.all_eq_true, decide_eq_true_eq] at h
  obtain ⟨h1, ⟨h2, h3⟩, h4⟩ := h
  refine ⟨h1, fun a ha b hb => h2 a ha b hb, ?_, h4⟩
  rcases h3 with h3 | h3
  · refine .inl fun d hd => ?_
    have z := h3 d hd
    split at z
    · exact ⟨_, _, rfl⟩
    · cases z
  · refine .inr fun d hd => ?_
    have z := h3 d hd
    split at z
    · cases z
    · cases z
    · rename_i n1 n2
      exact ⟨n1, n2⟩
theorem eachD {K : PySem.W.Frag} {F : Hp} : ∀ {vs : List V} {us : List Value} {ds : List D}, DatL K F vs ds -> Vals vs us -> PySem.W.EachIs (fun (u : Value) (d : D) => ∃ v, RelV v u ∧ Dat K F v d) us ds
  | _, _, _, .nil, .nil => .nil
  | _, _, _, .cons h t, .cons r s => .cons ⟨_, r, h⟩ (eachD t s)
theorem eachBack {K : PySem.W.Frag} {F : Hp} {us : List Value} {ds : List D} (h : PySem.W.EachIs (fun (u : Value) (d : D) => ∃ v, RelV v u ∧ Dat K F v d) us ds) : ∃ vs, Vals vs us ∧ DatL K F vs ds := by
  induction h with
  | nil => exact ⟨[], .nil, .nil⟩
  | cons h _ ih =>
    obtain ⟨v, r, d⟩ := h
    obtain ⟨vs, rs, ds⟩ := ih
    exact ⟨v :: vs, .cons r rs, .cons d ds⟩
theorem bltSorted (hu : X.A.units + 70 < cLine) : CallR X (.builtin "sorted") (rVs X.K (bltD .sorted)) := by
  intro pins s σ H vs us Q I r h
  obtain ⟨F, ds, r0, sF, hds, hb, q⟩ := h
  match ds, hb with
  | [.list xs], hb =>
    simp only [bltD] at hb
    split at hb
    · rename_i hk
      cases hb
      obtain ⟨h1, h2, h3, h4⟩ := okKeys_of hk
      obtain ⟨v, rfl, hd⟩ := hds.one
      obtain ⟨a, ys, rfl, hs, t⟩ := hd.list sF
      rw [Vals.ref1 r]
      obtain ⟨its, rv, hl, hz⟩ := I.list hs
      obtain ⟨as, hR⟩ := Dp.readsAll I xs ys its ((t.mono sF).dp h1) rv
      have er : PySem.W.EachIs (fun (u : Value) (d : D) => ∃ as, Reads s.heap u d as) its xs := by
        have z := PySem.W.readsAll_each (fun d : PyData => d) (vs := its) (bs := xs) (h := s.heap) (as := as) (by rw [List.map_id']; exact hR)
        exact z
      have lx : xs.length = its.length := by rw [← t.length, rv.length]
      refine PySem.W.sorted_data (enc := fun d : D => d) hl.isList (eachD t rv) er (by rw [List.map_id']; exact h2) (by rw [List.map_id']; exact h3) (by rw [lx, ← rv.length]; exact hz) (fun b hb => by have := h4 b hb; omega) fun out ho hout => ?_
      obtain ⟨ws, rw', hw⟩ := eachBack hout
      obtain ⟨ep, he'⟩ := PyProof.Rows.sortedAll_at s.heap its out.toArray
      have hlen : ws.length ≤ sizeLine := by
        rw [rw'.length, ho, lx, ← rv.length]; exact hz
      have np : H (s.heap.objs.size + 1) = none := I.hok.fresh (Nat.le_succ _)
      exact ⟨.ref _, upd H (s.heap.objs.size + 1) (.lst ws), I.laid (t' := s.toks) (fun _ _ => PyProof.Rows.sortedAll_old) (Nat.le_succ _) ⟨hlen, out, ep, rw', he'⟩, rfl, fin_lst sF q rfl hw np⟩
    · cases hb

/-! ### isinstance -/
def tyD : D -> String
  | .none => "NoneType"
  | .bool _ => "bool"
  | .int _ => "int"
  | .str _ => "str"
  | .list _ => "list"
  | .tuple _ => "tuple"
  | .dict _ => "dict"
theorem tyx_of {K : PySem.W.Frag} {F H : Hp} {v : V} {d : D} (sF : Same F H) (h : RdV K F H v d) : TyX K H v (.type (tyD d)) := by
  cases d with
  | none => obtain rfl := h.non; exact .base .non
  | bool b => obtain rfl := h.bl; exact .base (.bl _)
  | int b => obtain rfl := h.int; exact .base (.int _)
  | str b => obtain rfl := h.str; exact .base (.str _)
  | list xs =>
    obtain ⟨a, ys, rfl, h1, t⟩ := h.list sF
    rcases h1 with (h1 | ⟨o, h1⟩) | ⟨o, its, n, h1, h2, _⟩
    · exact .base (.lst h1)
    · exact .base (.frz h1)
    · exact .kList h1 h2
  | tuple xs =>
    obtain ⟨a, ys, rfl, h1, t, _⟩ := h.tup sF
    rcases h1 with (h1 | ⟨o, h1⟩) | ⟨o, its, n, h1, h2, _⟩
    · exact .base (.tup h1)
    · exact .fTuple h1
    · exact .kTuple h1 h2
  | dict xs =>
    obtain ⟨a, ys, rfl, h1, t⟩ := h.dict sF
    exact .base (.dK h1)
theorem kit_tf (T : Tf) (d : D) : kitB (tyD d) T.nm = some (isiD T d) := by
  cases T <;> cases d <;> first | rfl | decide +kernel
theorem bltIsi (T : Tf) : CallR X (.builtin "isinstance") (fun vs H Q => ∃ v, vs = [v, .ty T.nm] ∧ rV1 X.K (fun d => some (.pure (.bool (isiD T d)))) v H Q) := by
  intro pins s σ H vs us Q I r h
  obtain ⟨v, rfl, F, d, r0, sF, hd, hb, q⟩ := h
  cases hb
  exact call_isi pins s σ H _ us Q I r ⟨v, .ty T.nm, _, _, isiD T d, rfl, .ty _, tyx_of sF hd, kit_ty (kit_tf T d), fin_pure sF q rfl (.bl _)⟩
end
end DE

/-! DE6: each construct keeps what the data tell: expressions. -/
namespace DE
open PySem PySem.Spec PyProof.Rows L2

/-- an exception as it stands: its class by its name, its one field -/
def ExR (K : PySem.W.Frag) (F H : Hp) (e : Exn) (cls : Value) (d : Option Addr) : Prop := cls = .ref (He.ga K e.cls) ∧ match e.arg with
  | none => True
  | some (f, a) => ∃ dx v, d = some dx ∧ H dx = some (.xd [(f, v)]) ∧ Dat K F v a
def PostG {α β : Type} (K : PySem.W.Frag) (x : Fx) (σ : L2.St) (W : WX) (Res : Hp -> Hp -> DEnv -> β -> α -> Prop) (out : Out α) (F : Hp) (Q : β -> Hp -> Prop) : Prop := match out with
  | .ok r δ' => ∀ F' H' v, Rel K x F' σ H' δ' -> Same F F' -> Res F' H' δ' v r -> Q v H'
  | .ex e δ' => ∀ F' H' cls d, Rel K x F' σ H' δ' -> Same F F' -> ExR K F' H' e cls d -> W cls d σ H'
  | .no => False
section
variable {α β γ ι : Type} {K : PySem.W.Frag} {x : Fx} {σ : L2.St} {W : WX} {Res : Hp -> Hp -> DEnv -> β -> α -> Prop} {Res2 : Hp -> Hp -> DEnv -> ι -> γ -> Prop} {F F1 : Hp}
theorem PostG.base {out : Out α} {Q : β -> Hp -> Prop} (s : Same F F1) (h : PostG K x σ W Res out F Q) : PostG K x σ W Res out F1 Q := by
  cases out with
  | ok r δ => exact fun F' H' v R s' r => h F' H' v R (s.trans s') r
  | ex e δ => exact fun F' H' c d R s' r => h F' H' c d R (s.trans s') r
  | no => exact h
theorem PostG.bind {out : Out α} {k : α -> DEnv -> Out γ} {Q : ι -> Hp -> Prop} {Q1 : β -> Hp -> Prop} (h : PostG K x σ W Res2 (out.bind k) F Q)
    (g : ∀ a δ1 F1 H1 v, Rel K x F1 σ H1 δ1 -> Same F F1 -> Res F1 H1 δ1 v a -> PostG K x σ W Res2 (k a δ1) F1 Q -> Q1 v H1) : PostG K x σ W Res out F Q1 := by
  cases out with
  | ok a δ1 => exact fun F' H' v R s r => g a δ1 F' H' v R s r (PostG.base s h)
  | ex e δ => exact h
  | no => exact h
end
abbrev RV (K : PySem.W.Frag) (x : Fx) (σ : L2.St) : Hp -> Hp -> DEnv -> V -> Rv -> Prop := fun F' H' δ' v r => ResV K x F' H' σ δ' v r
abbrev RB : Hp -> Hp -> DEnv -> Bool -> Bool -> Prop := fun _ _ _ b b' => b = b'
abbrev RO : Hp -> Hp -> DEnv -> Option Int -> Option Int -> Prop := fun _ _ _ b b' => b = b'
abbrev RL (K : PySem.W.Frag) : Hp -> Hp -> DEnv -> List V -> List D -> Prop := fun F' _ _ vs ds => DatL K F' vs ds
inductive ResVs (K : PySem.W.Frag) (x : Fx) (F H : Hp) (σ : L2.St) (δ : DEnv) : List V -> List Rv -> Prop
  | nil : ResVs K x F H σ δ [] []
  | cons {v : V} {vs : List V} {r : Rv} {rs : List Rv} : ResV K x F H σ δ v (settle r) -> ResVs K x F H σ δ vs rs -> ResVs K x F H σ δ (v :: vs) (settle r :: rs)
inductive ArR (K : PySem.W.Frag) (F : Hp) (σ : L2.St) : List V -> List Ar -> Prop
  | nil : ArR K F σ [] []
  | d {v : V} {vs : List V} {a : D} {as : List Ar} : Dat K F v a -> ArR K F σ vs as -> ArR K F σ (v :: vs) (.d a :: as)
  | r {v : V} {vs : List V} {i : Nat} {as : List Ar} : σ[i]? = some (some v) -> ArR K F σ vs as -> ArR K F σ (v :: vs) (.r i :: as)
section
variable (K : PySem.W.Frag) (Γ : Calls) (gl : Str -> Option D) (W : WX)
def tE (c : CE) : TE := fun σ H Q => ∃ x F δ, Rel K x F σ H δ ∧ PostG K x σ W (RV K x σ) (evalE Γ gl c δ) F Q
def tT (c : CE) : TT := fun σ H Q => ∃ x F δ, Rel K x F σ H δ ∧ PostG K x σ W RB (evalT Γ gl c δ) F Q
def tO (c : CO) : TO := fun σ H Q => ∃ x F δ, Rel K x F σ H δ ∧ PostG K x σ W RO (evalO Γ gl c δ) F Q
def tEs (c : CEs) : TA := fun σ H Q => ∃ x F δ, Rel K x F σ H δ ∧ PostG K x σ W (RL K) (evalEs Γ gl c δ) F Q
def tRs (c : CEs) : TA := fun σ H Q => ∃ x F δ, Rel K x F σ H δ ∧ PostG K x σ W (fun F' H' δ' vs rs => ResVs K x F' H' σ δ' vs rs) (evalRs Γ gl c δ) F Q
def tAs (c : CAs) : TA := fun σ H Q => ∃ x F δ, Rel K x F σ H δ ∧ PostG K x σ W (fun F' _ _ vs as => ArR K F' σ vs as) (evalAs Γ gl c δ) F Q
end
theorem PE.imp {X : Cx} {e : Expr} {t t' : TE} (h : PE X e t) (i : ∀ σ H Q, t' σ H Q -> t σ H Q) : PE X e t' := ⟨fun pins s σ H Q I q => h.run pins s σ H Q I (i _ _ _ q)⟩
theorem PT.imp {X : Cx} {e : Expr} {t t' : TT} (h : PT X e t) (i : ∀ σ H Q, t' σ H Q -> t σ H Q) : PT X e t' := ⟨fun pins s σ H Q I q => h.run pins s σ H Q I (i _ _ _ q)⟩
theorem PW.imp {X : Cx} {e : Expr} {t t' : TT} (h : PW X e t) (i : ∀ σ H Q, t' σ H Q -> t σ H Q) : PW X e t' := ⟨fun w pins s σ H Q I q => h.run w pins s σ H Q I (i _ _ _ q)⟩
theorem PA.imp {X : Cx} {e : List Expr} {t t' : TA} (h : PA X e t) (i : ∀ σ H Q, t' σ H Q -> t σ H Q) : PA X e t' := ⟨fun p pins s σ H Q I q => h.run p pins s σ H Q I (i _ _ _ q)⟩
theorem PO.imp {X : Cx} {e : Option Expr} {t t' : TO} (h : PO X e t) (i : ∀ σ H Q, t' σ H Q -> t σ H Q) : PO X e t' := ⟨fun pins s σ H Q I q => h.run pins s σ H Q I (i _ _ _ q)⟩

theorem rd_settle (δ : DEnv) (r : Rv) : rd δ (settle r) = rd δ r := by cases r <;> rfl
theorem settle2 (r : Rv) : settle (settle r) = settle r := by cases r <;> rfl
section
variable {K : PySem.W.Frag} {x : Fx} {F H : Hp} {σ : L2.St} {δ : DEnv} {W : WX}
/-- two values read, an operation -/
theorem two_of {k : D -> D -> Option Rv} {r1 r2 : Rv} {Q : VK} {v w : V} (R : Rel K x F σ H δ) (h1 : ResV K x F H σ δ v (settle r1)) (h2 : ResV K x F H σ δ w r2)
    (p : PostG K x σ W (RV K x σ) (two δ r1 r2 k) F Q) : rV2 K k v w H Q := by
  unfold two at p
  cases e1 : rd δ (settle r1) with
  | none => simp only [e1] at p; exact p.elim
  | some d1 =>
    cases e2 : rd δ r2 with
    | none => simp only [e1, e2] at p; exact p.elim
    | some d2 =>
      simp only [e1, e2] at p
      cases e3 : k d1 d2 with
      | none => rw [e3] at p; exact p.elim
      | some r =>
        rw [e3] at p
        exact ⟨F, d1, d2, r, R.sub, R.read h1 e1, R.read h2 e2, e3, fun F' H' u g n => p F' H' u (R.grw g) g.f (R.resN n)⟩
theorem rdTo_of {k : D -> Option Rv} {r : Rv} {Q : VK} {v : V} (R : Rel K x F σ H δ) (h : ResV K x F H σ δ v r)
    (p : PostG K x σ W (RV K x σ) (rdTo δ r k) F Q) : ∃ d y, rd δ r = some d ∧ RdV K F H v d ∧ k d = some y ∧ PostG K x σ W (RV K x σ) (.ok y δ) F Q := by
  unfold rdTo at p
  cases e1 : rd δ r with
  | none => simp only [e1] at p; exact p.elim
  | some d1 =>
    simp only [e1] at p
    cases e3 : k d1 with
    | none => rw [e3] at p; exact p.elim
    | some y => rw [e3] at p; exact ⟨d1, y, rfl, R.read h e1, e3, p⟩
end

section
variable {X : Cx} {Γ : Calls} {gl : Str -> Option D} {W : WX} {a b d : Expr} {ca cb cd : CE} {pos : Pos}

theorem snd_slot {i : Nat} {y : Str} (hN : X.N[i]? = some y) (hv : Vis X.env.scope y) (h1 : (y == ("__debug__" : Str)) = false) (h2 : (y == ("__classdict__" : Str)) = false) : PE X (.Name y pos) (tE X.K Γ gl W (.slot i)) := by
  refine PE.imp (pe_var hN hv h1 h2) fun σ H Q ⟨x, F, δ, R, p⟩ => ?_
  unfold evalE at p
  cases e : δ[i]? with
  | none => simp only [e] at p; exact p.elim
  | some c =>
    have hs := R.slot i c e
    have go : ∀ v, σ[i]? = some (some v) -> PostG X.K x σ W (RV X.K x σ) (.ok (.bor i) δ) F Q -> tVar i σ H Q := fun v hv p => ⟨v, hv, p F H v R (Same.refl _) hv⟩
    cases c with
    | emp => simp only [e] at p; exact p.elim
    | pure d => simp only [e] at p; obtain ⟨v, h, _⟩ := hs; exact go v h p
    | own d => simp only [e] at p; obtain ⟨v, h, _⟩ := hs; exact go _ h p
    | inp d => simp only [e] at p; obtain ⟨v, h, _⟩ := hs; exact go _ h p
theorem snd_con {v : V} (h : PE X a (tC v)) {dt : D} (hd : ∀ F, Dat X.K F v dt) : PE X a (tE X.K Γ gl W (.con dt)) := by
  refine PE.imp h fun σ H Q ⟨x, F, δ, R, p⟩ => ?_
  unfold evalE at p
  exact p F H v R (Same.refl _) (hd F)
theorem snd_glb {y : Str} (h : ∀ dt, gl y = some dt -> ∃ v, PE X (.Name y pos) (tC v) ∧ ∀ F, Dat X.K F v dt) (hn : gl y ≠ none) : PE X (.Name y pos) (tE X.K Γ gl W (.glb y)) := by
  cases e : gl y with
  | none => exact absurd e hn
  | some dt =>
    obtain ⟨v, h1, h2⟩ := h dt e
    refine PE.imp h1 fun σ H Q ⟨x, F, δ, R, p⟩ => ?_
    unfold evalE at p
    rw [e] at p
    exact p F H v R (Same.refl _) (h2 F)
/-- two expressions, then an operation by values -/
theorem snd_two {k : D -> D -> Option Rv} {σ : L2.St} {H : Hp} {Q : VK} {x : Fx} {F : Hp} {δ : DEnv} (R : Rel X.K x F σ H δ)
    (p : PostG X.K x σ W (RV X.K x σ) ((evalE Γ gl ca δ).bind fun r1 δ1 => (evalE Γ gl cb δ1).bind fun r2 δ2 => two δ2 r1 r2 k) F Q) :
    tOp (rV2 X.K k) (tE X.K Γ gl W ca) (tE X.K Γ gl W cb) σ H Q := by
  refine ⟨x, F, δ, R, p.bind fun r1 δ1 F1 H1 v R1 s1 rv1 p1 => ?_⟩
  obtain ⟨F2, R2, s2, rv2⟩ := R1.settle rv1
  refine ⟨x, F2, δ1, R2, (p1.base s2).bind fun r2 δ2 F3 H3 w R3 s3 rv3 p3 => ?_⟩
  exact two_of R3 (rv2.stay s3) rv3 p3
theorem snd_bin {op : Operator} (ha : PE X a (tE X.K Γ gl W ca)) (hb : PE X b (tE X.K Γ gl W cb)) : PE X (.BinOp a op b pos) (tE X.K Γ gl W (.bin op ca cb)) :=
  PE.imp (pe_op (opBin op) ha hb) fun σ H Q ⟨x, F, δ, R, p⟩ => by
    unfold evalE at p
    exact snd_two R p
theorem snd_cmp {op : CmpOp} (hu : X.A.units + 65 < cLine) (hm : behindInMarks op b = false) (ha : PE X a (tE X.K Γ gl W ca)) (hb : PE X b (tE X.K Γ gl W cb)) : PE X (.Compare a [op] [b] pos) (tE X.K Γ gl W (.cmp op ca cb)) :=
  PE.imp (pe_cmpR (opCmp op hu) ha hb hm) fun σ H Q ⟨x, F, δ, R, p⟩ => by
    unfold evalE at p
    exact snd_two R p
theorem snd_idx (hs : PlainIx b) (ha : PE X a (tE X.K Γ gl W ca)) (hb : PE X b (tE X.K Γ gl W cb)) : PE X (.Subscript a b pos) (tE X.K Γ gl W (.idx ca cb)) :=
  PE.imp (pe_ix opIdx ha hb hs) fun σ H Q ⟨x, F, δ, R, p⟩ => by
    unfold evalE at p
    exact snd_two R p
theorem snd_neg (ha : PE X a (tE X.K Γ gl W ca)) : PE X (.UnaryOp .USub a pos) (tE X.K Γ gl W (.neg ca)) :=
  PE.imp (pe_un un_neg ha) fun σ H Q ⟨x, F, δ, R, p⟩ => by
    unfold evalE at p
    refine ⟨x, F, δ, R, p.bind fun r1 δ1 F1 H1 v R1 s1 rv1 p1 => ?_⟩
    obtain ⟨d, y, _, hd, e, p2⟩ := rdTo_of R1 rv1 p1
    cases d with
    | int i =>
      obtain rfl := hd.int
      cases e
      exact ⟨i, rfl, p2 F1 H1 _ R1 (Same.refl _) (.int _)⟩
    | _ => cases e
theorem snd_nt (ha : PE X a (tE X.K Γ gl W ca)) : PE X (.UnaryOp .Not a pos) (tE X.K Γ gl W (.nt ca)) :=
  PE.imp (pe_not ha) fun σ H Q ⟨x, F, δ, R, p⟩ => by
    unfold evalE at p
    refine ⟨x, F, δ, R, p.bind fun r1 δ1 F1 H1 v R1 s1 rv1 p1 => ?_⟩
    obtain ⟨d, y, _, hd, e, p2⟩ := rdTo_of R1 rv1 p1
    cases d with
    | bool i =>
      obtain rfl := hd.bl
      cases e
      exact ⟨i, rfl, p2 F1 H1 _ R1 (Same.refl _) (.bl _)⟩
    | _ => cases e
theorem snd_cmp2 {o p : CmpOp} (hu : X.A.units + 65 < cLine) (hm : lastMarks [o, p] [b, d] = false) (ha : PE X a (tE X.K Γ gl W ca)) (hb : PE X b (tE X.K Γ gl W cb)) (hd : PE X d (tE X.K Γ gl W cd)) :
    PE X (.Compare a [o, p] [b, d] pos) (tE X.K Γ gl W (.cmp2 o p ca cb cd)) :=
  PE.imp (pe_chain (opCmp o hu) (opCmp p hu) ha hb hd hm) fun σ H Q ⟨x, F, δ, R, pp⟩ => by
    unfold evalE at pp
    refine ⟨x, F, δ, R, pp.bind fun r1 δ1 F1 H1 v R1 s1 rv1 p1 => ?_⟩
    obtain ⟨F2, R2, s2, rv2⟩ := R1.settle rv1
    refine ⟨x, F2, δ1, R2, (p1.base s2).bind fun r2 δ2 F3 H3 w R3 s3 rv3 p3 => ?_⟩
    obtain ⟨F4, R4, s4, rv4⟩ := R3.settle rv3
    replace p3 := p3.base s4
    have rv1' := rv2.stay (δ' := δ2) (H' := H3) (s3.trans s4)
    cases e1 : rd δ2 (settle r1) with
    | none => simp only [e1] at p3; exact p3.elim
    | some d1 =>
      cases e2 : rd δ2 r2 with
      | none => simp only [e1, e2] at p3; exact p3.elim
      | some d2 =>
        simp only [e1, e2] at p3
        cases e3 : cmpD o d1 d2 with
        | none => simp only [e3] at p3; exact p3.elim
        | some bb =>
          refine ⟨F4, d1, d2, .pure (.bool bb), R4.sub, R4.read rv1' e1, R4.read rv4 (by rw [rd_settle]; exact e2), by show Option.map _ (cmpD o d1 d2) = _; rw [e3]; rfl, fun F5 H5 u g n => ?_⟩
          have R5 := R4.grw g
          have hu : u = .bl bb := by
            have n : Dat X.K F5 u (.bool bb) := n
            cases n; rfl
          refine ⟨bb, hu, ?_⟩
          cases bb with
          | false =>
            simp only [e3] at p3
            rw [if_neg Bool.false_ne_true]
            exact p3 F5 H5 _ R5 g.f (.bl _)
          | true =>
            simp only [e3] at p3
            rw [if_pos rfl]
            refine ⟨x, F5, δ2, R5, (p3.base g.f).bind fun r3 δ3 F6 H6 z R6 s6 rv6 p6 => ?_⟩
            exact two_of R6 (rv4.stay (δ' := δ3) (H' := H6) (g.f.trans s6)) rv6 p6
theorem snd_one {op : BoolOp} {c : CE} (ha : PE X a (tE X.K Γ gl W c)) : PE X (.BoolOp op [a] pos) (tE X.K Γ gl W c) := pe_one ha
theorem snd_an {rest : List Expr} (ha : PE X a (tE X.K Γ gl W ca)) (hb : PE X (.BoolOp .And (b :: rest) pos) (tE X.K Γ gl W cb)) : PE X (.BoolOp .And (a :: b :: rest) pos) (tE X.K Γ gl W (.an ca cb)) :=
  PE.imp (pe_and ha hb) fun σ H Q ⟨x, F, δ, R, p⟩ => by
    unfold evalE at p
    refine ⟨x, F, δ, R, p.bind fun r1 δ1 F1 H1 v R1 s1 rv1 p1 => ?_⟩
    cases e : rd δ1 r1 with
    | none => simp only [e] at p1; exact p1.elim
    | some dd =>
      have hd := R1.read rv1 e
      cases dd with
      | bool t =>
        obtain rfl := hd.bl
        refine ⟨t, rfl, ?_⟩
        cases t with
        | true => simp only [e] at p1; rw [if_pos rfl]; exact ⟨x, F1, δ1, R1, p1⟩
        | false => simp only [e] at p1; rw [if_neg Bool.false_ne_true]; exact p1 F1 H1 _ R1 (Same.refl _) (.bl _)
      | _ => simp only [e] at p1; exact p1.elim
theorem snd_or {rest : List Expr} (ha : PE X a (tE X.K Γ gl W ca)) (hb : PE X (.BoolOp .Or (b :: rest) pos) (tE X.K Γ gl W cb)) : PE X (.BoolOp .Or (a :: b :: rest) pos) (tE X.K Γ gl W (.orr ca cb)) :=
  PE.imp (pe_or ha hb) fun σ H Q ⟨x, F, δ, R, p⟩ => by
    unfold evalE at p
    refine ⟨x, F, δ, R, p.bind fun r1 δ1 F1 H1 v R1 s1 rv1 p1 => ?_⟩
    cases e : rd δ1 r1 with
    | none => simp only [e] at p1; exact p1.elim
    | some dd =>
      have hd := R1.read rv1 e
      cases dd with
      | bool t =>
        obtain rfl := hd.bl
        refine ⟨t, rfl, ?_⟩
        cases t with
        | false => simp only [e] at p1; rw [if_neg Bool.false_ne_true]; exact ⟨x, F1, δ1, R1, p1⟩
        | true => simp only [e] at p1; rw [if_pos rfl]; exact p1 F1 H1 _ R1 (Same.refl _) (.bl _)
      | _ => simp only [e] at p1; exact p1.elim
theorem snd_ife (hc : PT X d (tT X.K Γ gl W cd)) (ha : PE X a (tE X.K Γ gl W ca)) (hb : PE X b (tE X.K Γ gl W cb)) : PE X (.IfExp d a b pos) (tE X.K Γ gl W (.ife cd ca cb)) :=
  PE.imp (pe_ifExp hc ha hb) fun σ H Q ⟨x, F, δ, R, p⟩ => by
    unfold evalE at p
    refine ⟨x, F, δ, R, p.bind fun t δ1 F1 H1 t' R1 s1 rv1 p1 => ?_⟩
    obtain rfl : t' = t := rv1
    cases t' with
    | true => rw [if_pos rfl] at p1 ⊢; exact ⟨x, F1, δ1, R1, p1⟩
    | false => rw [if_neg Bool.false_ne_true] at p1 ⊢; exact ⟨x, F1, δ1, R1, p1⟩
/-! ### tests -/
theorem snd_tnt (ha : PT X a (tT X.K Γ gl W ca)) : PT X (.UnaryOp .Not a pos) (tT X.K Γ gl W (.nt ca)) :=
  PT.imp (pt_not ha) fun σ H Q ⟨x, F, δ, R, p⟩ => by
    unfold evalT at p
    refine ⟨x, F, δ, R, p.bind fun t δ1 F1 H1 t' R1 s1 rv1 p1 => ?_⟩
    obtain rfl : t' = t := rv1
    exact p1 F1 H1 _ R1 (Same.refl _) rfl
theorem snd_tan1 (ha : PT X a (tT X.K Γ gl W ca)) : PW X (.BoolOp .And [a] pos) (tT X.K Γ gl W ca) := pw_and1 ha
theorem snd_tor1 (ha : PT X a (tT X.K Γ gl W ca)) : PW X (.BoolOp .Or [a] pos) (tT X.K Γ gl W ca) := pw_or1 ha
theorem snd_tan {rest : List Expr} (ha : PT X a (tT X.K Γ gl W ca)) (hb : PW X (.BoolOp .And (b :: rest) pos) (tT X.K Γ gl W cb)) : PW X (.BoolOp .And (a :: b :: rest) pos) (tT X.K Γ gl W (.an ca cb)) :=
  PW.imp (pw_and ha hb) fun σ H Q ⟨x, F, δ, R, p⟩ => by
    unfold evalT at p
    refine ⟨x, F, δ, R, p.bind fun t δ1 F1 H1 t' R1 s1 rv1 p1 => ?_⟩
    obtain rfl : t' = t := rv1
    cases t' with
    | true => rw [if_pos rfl] at p1 ⊢; exact ⟨x, F1, δ1, R1, p1⟩
    | false => rw [if_neg Bool.false_ne_true] at p1 ⊢; exact p1 F1 H1 _ R1 (Same.refl _) rfl
theorem snd_tor {rest : List Expr} (ha : PT X a (tT X.K Γ gl W ca)) (hb : PW X (.BoolOp .Or (b :: rest) pos) (tT X.K Γ gl W cb)) : PW X (.BoolOp .Or (a :: b :: rest) pos) (tT X.K Γ gl W (.orr ca cb)) :=
  PW.imp (pw_or ha hb) fun σ H Q ⟨x, F, δ, R, p⟩ => by
    unfold evalT at p
    refine ⟨x, F, δ, R, p.bind fun t δ1 F1 H1 t' R1 s1 rv1 p1 => ?_⟩
    obtain rfl : t' = t := rv1
    cases t' with
    | true => rw [if_pos rfl] at p1 ⊢; exact p1 F1 H1 _ R1 (Same.refl _) rfl
    | false => rw [if_neg Bool.false_ne_true] at p1 ⊢; exact ⟨x, F1, δ1, R1, p1⟩
/-- a datum's truth -/
theorem truV_of {K : PySem.W.Frag} {F H : Hp} {v : V} {dd : D} {t : Bool} (sF : Same F H) (h : RdV K F H v dd) (e : truthD dd = some t) : TruV K v H t := by
  cases dd with
  | none => obtain rfl := h.non; cases e; rfl
  | bool z => obtain rfl := h.bl; cases e; rfl
  | int z => obtain rfl := h.int; cases e; rfl
  | str z =>
    obtain rfl := h.str
    simp only [truthD] at e
    split at e
    · rename_i hz; cases e; exact ⟨hz, rfl⟩
    · cases e
  | list xs =>
    obtain ⟨a, ys, rfl, h1, t⟩ := h.list sF
    cases e
    exact .inl ⟨ys, h1, by cases t <;> rfl⟩
  | tuple xs =>
    obtain ⟨a, ys, rfl, h1, t, _⟩ := h.tup sF
    cases e
    exact .inr (.inl ⟨ys, h1, by cases t <;> rfl⟩)
  | dict xs =>
    obtain ⟨a, ks, rfl, h1, t⟩ := h.dict sF
    cases e
    exact .inr (.inr ⟨ks, h1, by cases t <;> rfl⟩)
/-- what is no not, and, or -/
def genT : CE -> Bool
  | .nt _ => false
  | .an _ _ => false
  | .orr _ _ => false
  | _ => true
theorem evalT_gen {c : CE} (h : genT c = true) (δ : DEnv) : evalT Γ gl c δ = (evalE Γ gl c δ).bind fun r δ1 => rdTo δ1 r truthD := by
  cases c <;> first | (simp [genT] at h; done) | simp only [evalT]
theorem rdToB_of {K : PySem.W.Frag} {x : Fx} {F H : Hp} {σ : L2.St} {δ : DEnv} {W : WX} {k : D -> Option Bool} {r : Rv} {Q : Bool -> Hp -> Prop} {v : V} (R : Rel K x F σ H δ) (h : ResV K x F H σ δ v r)
    (p : PostG K x σ W RB (rdTo δ r k) F Q) : ∃ d y, rd δ r = some d ∧ RdV K F H v d ∧ k d = some y ∧ Q y H := by
  unfold rdTo at p
  cases e1 : rd δ r with
  | none => simp only [e1] at p; exact p.elim
  | some d1 =>
    simp only [e1] at p
    cases e3 : k d1 with
    | none => rw [e3] at p; exact p.elim
    | some y => rw [e3] at p; exact ⟨d1, y, rfl, R.read h e1, e3, p F H y R (Same.refl _) rfl⟩
theorem snd_tgen {c : CE} (hg : genT c = true) (ha : PE X a (tE X.K Γ gl W c)) (he : ∀ whole, isTrue a X.env whole = (do let v ← whole; standAt a.pos; holding [v] (truthy v))) : PT X a (tT X.K Γ gl W c) :=
  PT.imp (pt_truth ha he) fun σ H Q ⟨x, F, δ, R, p⟩ => by
    rw [evalT_gen hg] at p
    refine ⟨x, F, δ, R, p.bind fun r1 δ1 F1 H1 v R1 s1 rv1 p1 => ?_⟩
    obtain ⟨dd, t, _, hd, e, q⟩ := rdToB_of R1 rv1 p1
    exact ⟨t, truV_of R1.sub hd e, q⟩
theorem snd_tcmp {op : CmpOp} (hu : X.A.units + 65 < cLine) (hm : behindInMarks op b = false) (ha : PE X a (tE X.K Γ gl W ca)) (hb : PE X b (tE X.K Γ gl W cb)) : PT X (.Compare a [op] [b] pos) (tT X.K Γ gl W (.cmp op ca cb)) :=
  PT.imp (pt_cmpR (opCmp op hu) ha hb hm) fun σ H Q ⟨x, F, δ, R, p⟩ => by
    rw [evalT_gen rfl] at p
    unfold evalE at p
    refine ⟨x, F, δ, R, ?_⟩
    cases e1 : evalE Γ gl ca δ with
    | no => rw [e1] at p; exact p.elim
    | ex e δ1 => rw [e1] at p; exact p
    | ok r1 δ1 =>
      rw [e1] at p
      intro F1 H1 v R1 s1 rv1
      obtain ⟨F2, R2, s2, rv2⟩ := R1.settle rv1
      refine ⟨x, F2, δ1, R2, ?_⟩
      replace p := PostG.base (s1.trans s2) p
      simp only [Out.bind] at p
      cases e2 : evalE Γ gl cb δ1 with
      | no => rw [e2] at p; exact p.elim
      | ex e δ2 => rw [e2] at p; exact p
      | ok r2 δ2 =>
        rw [e2] at p
        intro F3 H3 w R3 s3 rv3
        replace p := PostG.base s3 p
        simp only [Out.bind, two] at p
        have h1 := rv2.stay (δ' := δ2) (H' := H3) s3
        cases e3 : rd δ2 (settle r1) with
        | none => simp only [e3] at p; exact p.elim
        | some d1 =>
          cases e4 : rd δ2 r2 with
          | none => simp only [e3, e4] at p; exact p.elim
          | some d2 =>
            simp only [e3, e4] at p
            cases e5 : cmpD op d1 d2 with
            | none => simp only [e5, ofO, Option.map] at p; exact p.elim
            | some t =>
              simp only [e5, ofO, Option.map, rdTo, rd, truthD] at p
              refine ⟨F3, d1, d2, .pure (.bool t), R3.sub, R3.read h1 e3, R3.read rv3 e4, by show Option.map _ (cmpD op d1 d2) = _; rw [e5]; rfl, fun F' H' u g n => ?_⟩
              have n : Dat X.K F' u (.bool t) := n
              cases n
              exact ⟨t, rfl, p F' H' t (R3.grw g) g.f rfl⟩
end
end DE

/-! DE7: displays, slices, built-in calls, methods. -/
namespace DE
open PySem PySem.Spec PyProof.Rows L2
section
variable {X : Cx} {Γ : Calls} {gl : Str -> Option D} {W : WX} {a b d : Expr} {ca cb cd : CE} {pos : Pos} {es : List Expr} {ces : CEs}

theorem noStar_each {e : Expr} {es : List Expr} {env : Env} (h : noStar e = true) : starEach (e :: es) env = (false, eval e env) :: starEach es env := by
  cases e <;> first | (simp [noStar] at h; done) | simp only [starEach]
/-! ### lists of expressions -/
theorem snd_es_nil : PA X [] (tEs X.K Γ gl W .nil) :=
  PA.imp pa_nil fun σ H Q ⟨x, F, δ, R, p⟩ => by
    unfold evalEs at p
    exact p F H [] R (Same.refl _) .nil
theorem snd_es_cons {e : Expr} {c : CE} (hs : noStar e = true) (he : PE X e (tE X.K Γ gl W c)) (hr : PA X es (tEs X.K Γ gl W ces)) : PA X (e :: es) (tEs X.K Γ gl W (.cons c ces)) :=
  PA.imp (pa_cons he hr (noStar_each hs)) fun σ H Q ⟨x, F, δ, R, p⟩ => by
    unfold evalEs at p
    refine ⟨x, F, δ, R, p.bind fun r1 δ1 F1 H1 v R1 s1 rv1 p1 => ?_⟩
    cases e1 : esc r1 δ1 with
    | no => rw [e1] at p1; exact p1.elim
    | ex e δ2 => exact absurd e1 esc_nex
    | ok dt δ2 =>
      rw [e1] at p1
      simp only [Out.bind] at p1
      obtain ⟨F2, R2, s2, hd⟩ := R1.esc rv1 e1
      refine ⟨x, F2, δ2, R2, (PostG.base s2 p1).bind fun ds δ3 F3 H3 vs R3 s3 hds p3 => ?_⟩
      exact p3 F3 H3 (v :: vs) R3 (Same.refl _) (.cons (hd.mono s3) hds)
theorem snd_rs_nil : PA X [] (tRs X.K Γ gl W .nil) :=
  PA.imp pa_nil fun σ H Q ⟨x, F, δ, R, p⟩ => by
    unfold evalRs at p
    exact p F H [] R (Same.refl _) .nil
theorem snd_rs_cons {e : Expr} {c : CE} (hs : noStar e = true) (he : PE X e (tE X.K Γ gl W c)) (hr : PA X es (tRs X.K Γ gl W ces)) : PA X (e :: es) (tRs X.K Γ gl W (.cons c ces)) :=
  PA.imp (pa_cons he hr (noStar_each hs)) fun σ H Q ⟨x, F, δ, R, p⟩ => by
    unfold evalRs at p
    refine ⟨x, F, δ, R, p.bind fun r1 δ1 F1 H1 v R1 s1 rv1 p1 => ?_⟩
    obtain ⟨F2, R2, s2, rv2⟩ := R1.settle rv1
    refine ⟨x, F2, δ1, R2, (PostG.base s2 p1).bind fun ds δ3 F3 H3 vs R3 s3 hds p3 => ?_⟩
    exact p3 F3 H3 (v :: vs) R3 (Same.refl _) (.cons (rv2.stay s3) hds)
theorem snd_tup {k : Nat} (h : PA X es (tEs X.K Γ gl W ces)) : PE X (.Tuple es k pos) (tE X.K Γ gl W (.tup ces)) :=
  PE.imp (pe_tupF h) fun σ H Q ⟨x, F, δ, R, p⟩ => by
    unfold evalE at p
    refine ⟨x, F, δ, R, p.bind fun ds δ1 F1 H1 vs R1 s1 hds p1 => ?_⟩
    have hl := DatL.length hds
    split at p1
    · rename_i hz
      refine ⟨by omega, fun q o np ho => ?_⟩
      exact p1 _ _ _ (R1.still _ np) (same_upd (R1.nF np)) (.tup ⟨.inl (.inr ⟨_, upd_same⟩), .inl ⟨_, _, upd_same, ho⟩⟩ (DatL.mono (same_upd (R1.nF np)) hds))
    · exact p1.elim
theorem snd_lst (h : PA X es (tEs X.K Γ gl W ces)) : PE X (.List es pos) (tE X.K Γ gl W (.lst ces)) :=
  PE.imp (pe_lst h) fun σ H Q ⟨x, F, δ, R, p⟩ => by
    unfold evalE at p
    refine ⟨x, F, δ, R, p.bind fun ds δ1 F1 H1 vs R1 s1 hds p1 => ?_⟩
    have hl := DatL.length hds
    split at p1
    · rename_i hz
      refine ⟨by omega, fun q np => ?_⟩
      exact p1 F1 _ _ (R1.beside _ np) (Same.refl _) (R1.resN (u := .ref q) (r := .own (.list ds)) ⟨q, rfl, ⟨vs, upd_same, hds⟩, R1.nF np, np⟩)
    · exact p1.elim
/-! ### slices -/
theorem snd_o_non : PO X none (tO X.K Γ gl W .non) :=
  PO.imp po_none fun σ H Q ⟨x, F, δ, R, p⟩ => by
    unfold evalO at p
    exact p F H none R (Same.refl _) rfl
theorem rdToO_of {K : PySem.W.Frag} {x : Fx} {F H : Hp} {σ : L2.St} {δ : DEnv} {W : WX} {k : D -> Option (Option Int)} {r : Rv} {Q : Option Int -> Hp -> Prop} {v : V} (R : Rel K x F σ H δ) (h : ResV K x F H σ δ v r)
    (p : PostG K x σ W RO (rdTo δ r k) F Q) : ∃ d y, RdV K F H v d ∧ k d = some y ∧ Q y H := by
  unfold rdTo at p
  cases e1 : rd δ r with
  | none => simp only [e1] at p; exact p.elim
  | some d1 =>
    simp only [e1] at p
    cases e3 : k d1 with
    | none => rw [e3] at p; exact p.elim
    | some y => rw [e3] at p; exact ⟨d1, y, R.read h e1, e3, p F H y R (Same.refl _) rfl⟩
theorem snd_o_som (ha : PE X a (tE X.K Γ gl W ca)) : PO X (some a) (tO X.K Γ gl W (.som ca)) :=
  PO.imp (po_some ha) fun σ H Q ⟨x, F, δ, R, p⟩ => by
    unfold evalO at p
    refine ⟨x, F, δ, R, p.bind fun r1 δ1 F1 H1 v R1 s1 rv1 p1 => ?_⟩
    obtain ⟨dd, y, hd, e, q⟩ := rdToO_of R1 rv1 p1
    cases dd with
    | int i =>
      obtain rfl := hd.int
      cases e
      exact ⟨i, rfl, q⟩
    | _ => cases e
theorem snd_slc {lo hi : Option Expr} {clo chi : CO} {p2 : Pos} (ha : PE X a (tE X.K Γ gl W ca)) (hl : PO X lo (tO X.K Γ gl W clo)) (hh : PO X hi (tO X.K Γ gl W chi)) : PE X (.Subscript a (.Slice lo hi none p2) pos) (tE X.K Γ gl W (.slc ca clo chi)) :=
  PE.imp (pe_slice opSlc ha hl hh) fun σ H Q ⟨x, F, δ, R, p⟩ => by
    unfold evalE at p
    refine ⟨x, F, δ, R, p.bind fun r1 δ1 F1 H1 v R1 s1 rv1 p1 => ?_⟩
    obtain ⟨F2, R2, s2, rv2⟩ := R1.settle rv1
    refine ⟨x, F2, δ1, R2, (PostG.base s2 p1).bind fun l δ3 F3 H3 l' R3 s3 el p3 => ?_⟩
    obtain rfl : l' = l := el
    refine ⟨x, F3, δ3, R3, p3.bind fun u δ4 F4 H4 u' R4 s4 eu p4 => ?_⟩
    obtain rfl : u' = u := eu
    obtain ⟨dd, y, _, hd, e, q⟩ := rdTo_of R4 (rv2.stay (δ' := δ4) (H' := H4) (s3.trans s4)) p4
    exact ⟨F4, dd, y, R4.sub, hd, e, fun F' H' w g n => q F' H' w (R4.grw g) g.f (R4.resN n)⟩
/-! ### built-in calls -/
theorem rds_of {K : PySem.W.Frag} {x : Fx} {F H : Hp} {σ : L2.St} {δ : DEnv} (R : Rel K x F σ H δ) : ∀ {vs : List V} {rs : List Rv} {ds : List D}, ResVs K x F H σ δ vs rs -> rs.mapM (rd δ) = some ds -> RdVs K F H vs ds
  | _, _, ds, .nil, h => by
    rw [List.mapM_nil] at h
    cases h
    exact .nil
  | _, _, ds, .cons (rs := rs) h1 h2, h => by
    rename_i v vs r
    rw [List.mapM_cons] at h
    cases e1 : rd δ (settle r) with
    | none => rw [e1] at h; cases h
    | some d1 =>
      rw [e1] at h
      cases e2 : rs.mapM (rd δ) with
      | none => rw [e2] at h; cases h
      | some d2 =>
        rw [e2] at h
        cases h
        exact .cons (R.read h1 e1) (rds_of R h2 e2)
/-- the reading of a built-in's call -/
theorem snd_blt_red {f : Bf} {r : List V -> Hp -> VK -> Prop} (hr : ∀ vs H Q, rVs X.K (bltD f) vs H Q -> r vs H Q) (σ : L2.St) (H : Hp) (Q : VK) (h : tE X.K Γ gl W (.blt f ces) σ H Q) : tCB r (tRs X.K Γ gl W ces) σ H Q := by
  obtain ⟨x, F, δ, R, p⟩ := h
  unfold evalE at p
  refine ⟨x, F, δ, R, p.bind fun rs δ1 F1 H1 vs R1 s1 hrs p1 => ?_⟩
  apply hr
  cases e1 : rs.mapM (rd δ1) with
  | none => simp only [e1] at p1; exact p1.elim
  | some ds =>
    simp only [e1] at p1
    cases e2 : bltD f ds with
    | none => rw [e2] at p1; exact p1.elim
    | some y =>
      rw [e2] at p1
      exact ⟨F1, ds, y, R1.sub, rds_of R1 hrs e1, e2, fun F' H' w g n => p1 F' H' w (R1.grw g) g.f (R1.resN n)⟩
theorem plainStar {pos : Pos} {es : List Expr} {env : Env} (h : es.all noStar = true) : (backTo pos (starEach es env)).any (·.1) = false := by
  induction es with
  | nil => simp only [starEach]; rfl
  | cons e r ih =>
    rw [List.all_cons, Bool.and_eq_true] at h
    rw [noStar_each h.1]
    show (false || (backTo pos (starEach r env)).any (·.1)) = false
    rw [ih h.2]; rfl
def isTy : Bf -> Bool
  | .int => true
  | .list => true
  | .tuple => true
  | .dict => true
  | _ => false
theorem bootB (f : Bf) : isTy f = false -> bootBuiltins (Str.ofString f.nm) = some (.builtin f.nm) := by
  cases f <;> first | (intro h; cases h; done) | (intro _; decide +kernel)
theorem bltCall (f : Bf) (hc : X.calm = true) (hu : X.A.units + 70 < cLine) (h : isTy f = false) : CallR X (.builtin f.nm) (rVs X.K (bltD f)) := by
  cases f with
  | len => exact bltLen
  | abs => exact bltAbs
  | all => exact bltAll hc
  | any => exact bltAny hc
  | sum => exact bltSum hc
  | max => exact bltMax hc
  | min => exact bltMin hc
  | sorted => exact bltSorted hu
  | int => cases h
  | list => cases h
  | tuple => cases h
  | dict => cases h
theorem bltTy (f : Bf) (hc : X.calm = true) (h : isTy f = true) : CallR X (.type f.nm) (rVs X.K (bltD f)) := by
  cases f with
  | int => exact bltInt
  | list => exact bltList hc
  | dict => exact bltDict hc
  | tuple => exact bltTuple
  | _ => cases h
theorem snd_blt {f : Bf} {e : Expr} {p : Pos} (hc : X.calm = true) (hu : X.A.units + 70 < cLine) (hg : Gl X (Str.ofString f.nm)) (hm : X.mg (Str.ofString f.nm) = none) (hs : (e :: es).all noStar = true) (h : PA X (e :: es) (tRs X.K Γ gl W ces)) :
    PE X (.Call (.Name (Str.ofString f.nm) p) (e :: es) [] pos) (tE X.K Γ gl W (.blt f ces)) := by
  have hs' := hs
  rw [List.all_cons, Bool.and_eq_true] at hs'
  cases hf : isTy f with
  | true =>
    exact PE.imp (pe_callTy (bltTy f hc hf) hg hm (by cases f <;> first | (cases hf; done) | decide +kernel) h (by cases f <;> decide +kernel) (by cases f <;> decide +kernel) (noStar_each hs'.1) (plainStar hs'.2)) fun σ H Q z => snd_blt_red (fun _ _ _ z => z) σ H Q z
  | false =>
    exact PE.imp (pe_callB (bltCall f hc hu hf) hg hm (bootB f hf) h (by cases f <;> decide +kernel) (by cases f <;> decide +kernel) (noStar_each hs'.1) (plainStar hs'.2)) fun σ H Q z => snd_blt_red (fun _ _ _ z => z) σ H Q z
theorem snd_isi {T : Tf} {p p2 : Pos} (hg : Gl X "isinstance") (hm : X.mg "isinstance" = none) (hgT : Gl X (Str.ofString T.nm)) (hmT : X.mg (Str.ofString T.nm) = none) (hs : noStar a = true) (ha : PE X a (tE X.K Γ gl W ca)) :
    PE X (.Call (.Name "isinstance" p) [a, .Name (Str.ofString T.nm) p2] [] pos) (tE X.K Γ gl W (.isi ca T)) := by
  have hT : PE X (.Name (Str.ofString T.nm) p2) (tC (.ty T.nm)) := pe_bltn hgT hmT (by cases T <;> decide +kernel) (show RelV (.ty T.nm) (.type T.nm) from rfl) (by cases T <;> decide +kernel) (by cases T <;> decide +kernel)
  refine PE.imp (pe_callB (bltIsi T) hg hm (by decide +kernel) (pa_cons ha (pa_cons hT pa_nil (noStar_each rfl)) (noStar_each hs)) (by decide) (by decide) (noStar_each hs) (plainStar rfl)) fun σ H Q ⟨x, F, δ, R, pp⟩ => ?_
  unfold evalE at pp
  refine ⟨x, F, δ, R, pp.bind fun r1 δ1 F1 H1 v R1 s1 rv1 p1 => ?_⟩
  obtain ⟨dd, y, _, hd, e, q⟩ := rdTo_of R1 rv1 p1
  exact ⟨v, rfl, F1, dd, y, R1.sub, hd, e, fun F' H' w g n => q F' H' w (R1.grw g) g.f (R1.resN n)⟩
end
end DE

/-! DE8: the call of a def over data. -/
namespace DE
open PySem PySem.Spec PyProof.Rows L2

def inpAt (vs : List V) (cs : List Cell) (a : Addr) : Prop := ∃ (j : Nat) (d : D), vs[j]? = some (.ref a) ∧ cs[j]? = some (.inp d)
inductive ArgC (K : PySem.W.Frag) (F H : Hp) : List V -> List Cell -> Prop
  | nil : ArgC K F H [] []
  | pure {v : V} {d : D} {vs : List V} {cs : List Cell} : Dat K F v d -> ArgC K F H vs cs -> ArgC K F H (v :: vs) (.pure d :: cs)
  | inp {a : Addr} {d : D} {vs : List V} {cs : List Cell} : OwnAt K F H a d -> F a = none -> ArgC K F H vs cs -> ArgC K F H (.ref a :: vs) (.inp d :: cs)
def Apart (vs : List V) (cs : List Cell) : Prop := ∀ (i j : Nat) (a : Addr) (d e : D), i ≠ j -> vs[i]? = some (.ref a) -> cs[i]? = some (.inp d) -> vs[j]? = some (.ref a) -> cs[j]? = some (.inp e) -> False
structure CGrw (K : PySem.W.Frag) (F H : Hp) (vs : List V) (cs outs : List Cell) (F' H' : Hp) : Prop where
  f : Same F F'
  s : Same F' H'
  h : ∀ a o, H a = some o -> ¬ inpAt vs cs a -> H' a = some o
  n : ∀ a, F a = none -> F' a ≠ none -> H a = none
  o : ∀ (j : Nat) (a : Addr) (d : D), vs[j]? = some (.ref a) -> cs[j]? = some (.inp d) -> F' a = none ∧ ∃ d', outs[j]? = some (.inp d') ∧ OwnAt K F' H' a d'
def ResC (K : PySem.W.Frag) (H F' H' : Hp) (v : V) : Cell -> Prop
  | .pure d => Dat K F' v d
  | .own d => ∃ a, v = .ref a ∧ OwnAt K F' H' a d ∧ F' a = none ∧ H a = none
  | _ => False
/-- what a def promises, over data -/
def spD (K : PySem.W.Frag) (Γ : Calls) (f : Str) : Sp := fun vs H Q E => ∃ F cs, Same F H ∧ ArgC K F H vs cs ∧ Apart vs cs ∧ match Γ f cs with
  | .ret c outs => ∀ F' H' v, CGrw K F H vs cs outs F' H' -> ResC K H F' H' v c -> Q v H'
  | .exc e outs => ∀ F' H' cls d, CGrw K F H vs cs outs F' H' -> ExR K F' H' e cls d -> E cls d H'
  | .no => False

theorem ArgC.length {K : PySem.W.Frag} {F H : Hp} : ∀ {vs : List V} {cs : List Cell}, ArgC K F H vs cs -> vs.length = cs.length
  | _, _, .nil => rfl
  | _, _, .pure _ t => by rw [List.length_cons, List.length_cons, ArgC.length t]
  | _, _, .inp _ _ t => by rw [List.length_cons, List.length_cons, ArgC.length t]

/-! ### behind the call -/
theorem putBack_length : ∀ (as : List Ar) (outs : List Cell) (δ : DEnv), (putBack as outs δ).length = δ.length
  | [], outs, δ => by simp only [putBack]
  | .d _ :: as, [], δ => by simp only [putBack]
  | .r _ :: as, [], δ => by simp only [putBack]
  | .d _ :: as, _ :: outs, δ => by simp only [putBack]; exact putBack_length as outs δ
  | .r i :: as, .inp d :: outs, δ => by
    simp only [putBack]
    rw [putBack_length as outs]
    cases δ[i]? with
    | none => rfl
    | some c => exact List.length_set
  | .r i :: as, .emp :: outs, δ => by simp only [putBack]; exact putBack_length as outs δ
  | .r i :: as, .pure _ :: outs, δ => by simp only [putBack]; exact putBack_length as outs δ
  | .r i :: as, .own _ :: outs, δ => by simp only [putBack]; exact putBack_length as outs δ
theorem mem_refs : ∀ {as : List Ar} {j i : Nat}, as[j]? = some (.r i) -> i ∈ refsOf as
  | [], _, _, h => by simp at h
  | .d _ :: as, 0, _, h => by simp at h
  | .r k :: as, 0, i, h => by simp at h; subst h; simp [refsOf]
  | .d _ :: as, j + 1, i, h => by simp only [refsOf]; exact mem_refs (j := j) (by simpa using h)
  | .r k :: as, j + 1, i, h => by simp only [refsOf]; exact List.mem_cons_of_mem _ (mem_refs (j := j) (by simpa using h))
theorem putBack_get : ∀ (as : List Ar) (outs : List Cell) (δ : DEnv) (i : Nat) (c' : Cell), (refsOf as).Nodup -> (putBack as outs δ)[i]? = some c' ->
    ∃ c, δ[i]? = some c ∧ ((c' = c ∧ ∀ (j : Nat) (d : D), as[j]? = some (.r i) -> outs[j]? ≠ some (.inp d)) ∨ ∃ (j : Nat) (d : D), as[j]? = some (.r i) ∧ outs[j]? = some (.inp d) ∧ c' = backTo1 c d)
  | [], outs, δ, i, c', _, h => by
    simp only [putBack] at h
    exact ⟨c', h, .inl ⟨rfl, fun j d z => by simp at z⟩⟩
  | a :: as, [], δ, i, c', _, h => by
    have e : putBack (a :: as) [] δ = δ := by cases a <;> simp only [putBack]
    rw [e] at h
    exact ⟨c', h, .inl ⟨rfl, fun j d _ => by simp⟩⟩
  | .d a :: as, o :: outs, δ, i, c', nd, h => by
    have e : putBack (.d a :: as) (o :: outs) δ = putBack as outs δ := by simp only [putBack]
    rw [e] at h
    obtain ⟨c, h1, h2⟩ := putBack_get as outs δ i c' nd h
    refine ⟨c, h1, ?_⟩
    rcases h2 with ⟨h2, h3⟩ | ⟨j, d, h2, h3, h4⟩
    · refine .inl ⟨h2, fun j d z => ?_⟩
      cases j with
      | zero => simp at z
      | succ j => simpa using h3 j d (by simpa using z)
    · exact .inr ⟨j + 1, d, by simpa using h2, by simpa using h3, h4⟩
  | .r k :: as, o :: outs, δ, i, c', nd, h => by
    have nd2 : k ∉ refsOf as ∧ (refsOf as).Nodup := List.nodup_cons.mp (by simpa [refsOf] using nd)
    by_cases ho : ∃ d, o = .inp d
    · obtain ⟨d, rfl⟩ := ho
      simp only [putBack] at h
      obtain ⟨c1, h1, h2⟩ := putBack_get as outs _ i c' nd2.2 h
      by_cases hi : i = k
      · subst hi
        have no : ∀ j : Nat, as[j]? ≠ some (.r i) := fun j z => nd2.1 (mem_refs z)
        cases q : δ[i]? with
        | none => rw [q] at h1; simp only at h1; rw [q] at h1; cases h1
        | some c =>
          rw [q] at h1
          simp only at h1
          have hlt : i < δ.length := (List.getElem?_eq_some_iff.mp q).1
          rw [List.getElem?_set_self hlt] at h1
          cases h1
          refine ⟨c, rfl, ?_⟩
          rcases h2 with ⟨h2, _⟩ | ⟨j, d', h2, _⟩
          · exact .inr ⟨0, d, rfl, rfl, h2⟩
          · exact absurd h2 (no j)
      · have h1' : δ[i]? = some c1 := by
          cases q : δ[k]? with
          | none => rw [q] at h1; exact h1
          | some c =>
            rw [q] at h1
            simp only at h1
            rw [List.getElem?_set_ne (fun z => hi z.symm)] at h1
            exact h1
        refine ⟨c1, h1', ?_⟩
        rcases h2 with ⟨h2, h3⟩ | ⟨j, d', h2, h3, h4⟩
        · refine .inl ⟨h2, fun j d' z => ?_⟩
          cases j with
          | zero => simp at z; exact absurd z.symm hi
          | succ j => simpa using h3 j d' (by simpa using z)
        · exact .inr ⟨j + 1, d', by simpa using h2, by simpa using h3, h4⟩
    · have e : putBack (.r k :: as) (o :: outs) δ = putBack as outs δ := by
        cases o with
        | inp d => exact absurd ⟨d, rfl⟩ ho
        | _ => simp only [putBack]
      rw [e] at h
      obtain ⟨c, h1, h2⟩ := putBack_get as outs δ i c' nd2.2 h
      refine ⟨c, h1, ?_⟩
      rcases h2 with ⟨h2, h3⟩ | ⟨j, d, h2, h3, h4⟩
      · refine .inl ⟨h2, fun j d z => ?_⟩
        cases j with
        | zero => intro w; simp at w; exact ho ⟨d, w⟩
        | succ j => simpa using h3 j d (by simpa using z)
      · exact .inr ⟨j + 1, d, by simpa using h2, by simpa using h3, h4⟩
theorem backTo1_own (c : Cell) (d : D) : (backTo1 c d).isOwn = c.isOwn := by cases c <;> rfl
theorem putBack_own {as : List Ar} {outs : List Cell} {δ : DEnv} {i : Nat} {c' : Cell} (nd : (refsOf as).Nodup) (h : (putBack as outs δ)[i]? = some c') : ∃ c, δ[i]? = some c ∧ c.isOwn = c'.isOwn := by
  obtain ⟨c, h1, h2⟩ := putBack_get as outs δ i c' nd h
  rcases h2 with ⟨rfl, _⟩ | ⟨j, d, _, _, rfl⟩
  · exact ⟨_, h1, rfl⟩
  · exact ⟨c, h1, (backTo1_own c d).symm⟩

section
variable {K : PySem.W.Frag} {x : Fx} {F H : Hp} {σ : L2.St} {δ : DEnv}
theorem arCells_get : ∀ {as : List Ar} {cs : List Cell} {j : Nat} {a : Ar}, arCells δ as = some cs -> as[j]? = some a -> ∃ c, cs[j]? = some c ∧ arCell δ a = some c
  | [], _, _, _, _, h => by simp at h
  | b :: r, cs, j, a, e, h => by
    simp only [arCells] at e
    cases e1 : arCell δ b with
    | none => simp only [e1] at e; cases e
    | some c =>
      cases e2 : arCells δ r with
      | none => simp only [e1, e2] at e; cases e
      | some cs' =>
        simp only [e1, e2] at e
        cases e
        cases j with
        | zero => simp at h; subst h; exact ⟨c, rfl, e1⟩
        | succ j =>
          obtain ⟨c', h1, h2⟩ := arCells_get (j := j) e2 (by simpa using h)
          exact ⟨c', by simpa using h1, h2⟩
theorem arCells_back : ∀ {as : List Ar} {cs : List Cell} {j : Nat} {c : Cell}, arCells δ as = some cs -> cs[j]? = some c -> ∃ a, as[j]? = some a ∧ arCell δ a = some c
  | [], _, _, _, e, h => by cases e; simp at h
  | b :: r, cs, j, c', e, h => by
    simp only [arCells] at e
    cases e1 : arCell δ b with
    | none => simp only [e1] at e; cases e
    | some c =>
      cases e2 : arCells δ r with
      | none => simp only [e1, e2] at e; cases e
      | some cs' =>
        simp only [e1, e2] at e
        cases e
        cases j with
        | zero => simp at h; subst h; exact ⟨b, rfl, e1⟩
        | succ j =>
          obtain ⟨a', h1, h2⟩ := arCells_back (j := j) e2 (by simpa using h)
          exact ⟨a', by simpa using h1, h2⟩
/-- a cell handed on as changeable: its slot owns it -/
theorem arCell_inp {a : Ar} {d : D} (h : arCell δ a = some (.inp d)) : ∃ i c, a = .r i ∧ δ[i]? = some c ∧ c.isOwn = true ∧ (c = .own d ∨ c = .inp d) := by
  cases a with
  | d _ => cases h
  | r i =>
    simp only [arCell] at h
    split at h <;> cases h
    · rename_i q; exact ⟨i, _, rfl, q, rfl, .inl rfl⟩
    · rename_i q; exact ⟨i, _, rfl, q, rfl, .inr rfl⟩
theorem ArR.get : ∀ {vs : List V} {as : List Ar} {j i : Nat}, ArR K F σ vs as -> as[j]? = some (.r i) -> ∃ v, vs[j]? = some v ∧ σ[i]? = some (some v)
  | _, _, _, _, .nil, h => by simp at h
  | _, _, 0, _, .d _ _, h => by simp at h
  | _, _, 0, _, .r h1 _, h => by simp at h; subst h; exact ⟨_, rfl, h1⟩
  | _, _, j + 1, _, .d _ t, h => by
    obtain ⟨v, h1, h2⟩ := ArR.get (j := j) t (by simpa using h)
    exact ⟨v, by simpa using h1, h2⟩
  | _, _, j + 1, _, .r _ t, h => by
    obtain ⟨v, h1, h2⟩ := ArR.get (j := j) t (by simpa using h)
    exact ⟨v, by simpa using h1, h2⟩
theorem ArR.args (R : Rel K x F σ H δ) : ∀ {vs : List V} {as : List Ar} {cs : List Cell}, ArR K F σ vs as -> arCells δ as = some cs -> ArgC K F H vs cs
  | _, _, cs, .nil, e => by cases e; exact .nil
  | _, _, cs, .d (as := as) h t, e => by
    simp only [arCells, arCell] at e
    cases e2 : arCells δ as with
    | none => simp only [e2] at e; cases e
    | some cs' => simp only [e2] at e; cases e; exact .pure h (ArR.args R t e2)
  | _, _, cs, .r (i := i) (as := as) h t, e => by
    simp only [arCells] at e
    cases e1 : arCell δ (.r i) with
    | none => simp only [e1] at e; cases e
    | some c =>
      cases e2 : arCells δ as with
      | none => simp only [e1, e2] at e; cases e
      | some cs' =>
        simp only [e1, e2] at e
        cases e
        simp only [arCell] at e1
        cases q : δ[i]? with
        | none => simp only [q] at e1; cases e1
        | some c0 =>
          have hs := R.slot i c0 q
          cases c0 with
          | emp => simp only [q] at e1; cases e1
          | pure d =>
            simp only [q] at e1; cases e1
            obtain ⟨w, h1, h2⟩ := hs
            rw [h] at h1; cases h1
            exact .pure h2 (ArR.args R t e2)
          | own d =>
            simp only [q] at e1; cases e1
            obtain ⟨w, h1, h2⟩ := hs
            rw [h] at h1; cases h1
            exact .inp h2 (R.own i _ w q rfl h).1 (ArR.args R t e2)
          | inp d =>
            simp only [q] at e1; cases e1
            obtain ⟨w, h1, h2⟩ := hs
            rw [h] at h1; cases h1
            exact .inp h2 (R.own i _ w q rfl h).1 (ArR.args R t e2)
/-- who owns an address that is handed on -/
theorem inpAt_slot (hr : ArR K F σ vs as) {cs : List Cell} (e : arCells δ as = some cs) {j : Nat} {a : Addr} {d : D} (h1 : vs[j]? = some (.ref a)) (h2 : cs[j]? = some (.inp d)) :
    ∃ i c, as[j]? = some (.r i) ∧ δ[i]? = some c ∧ c.isOwn = true ∧ σ[i]? = some (some (V.ref a)) ∧ (c = .own d ∨ c = .inp d) := by
  obtain ⟨ar, h3, h4⟩ := arCells_back e h2
  obtain ⟨i, c, rfl, h5, h6, h7⟩ := arCell_inp h4
  obtain ⟨v, h8, h9⟩ := hr.get h3
  rw [h1] at h8; cases h8
  exact ⟨i, c, h3, h5, h6, h9, h7⟩
theorem refs_inj : ∀ {as : List Ar} {i j k : Nat}, (refsOf as).Nodup -> as[i]? = some (.r k) -> as[j]? = some (.r k) -> i = j
  | [], _, _, _, _, h, _ => by simp at h
  | .d _ :: as, 0, _, _, _, h, _ => by simp at h
  | .d _ :: as, _ + 1, 0, _, _, _, h => by simp at h
  | .d _ :: as, i + 1, j + 1, k, nd, h1, h2 => by rw [refs_inj (i := i) (j := j) (k := k) (by simpa [refsOf] using nd) (by simpa using h1) (by simpa using h2)]
  | .r m :: as, 0, 0, _, _, _, _ => rfl
  | .r m :: as, 0, j + 1, k, nd, h1, h2 => by
    simp at h1; subst h1
    exact absurd (mem_refs (j := j) (by simpa using h2)) (List.nodup_cons.mp (by simpa [refsOf] using nd)).1
  | .r m :: as, i + 1, 0, k, nd, h1, h2 => by
    simp at h2; subst h2
    exact absurd (mem_refs (j := i) (by simpa using h1)) (List.nodup_cons.mp (by simpa [refsOf] using nd)).1
  | .r m :: as, i + 1, j + 1, k, nd, h1, h2 => by rw [refs_inj (i := i) (j := j) (k := k) (List.nodup_cons.mp (by simpa [refsOf] using nd)).2 (by simpa using h1) (by simpa using h2)]
theorem ArR.apart (R : Rel K x F σ H δ) {vs : List V} {as : List Ar} {cs : List Cell} (hr : ArR K F σ vs as) (e : arCells δ as = some cs) (nd : (refsOf as).Nodup) : Apart vs cs := fun i j a d e' nij h1 h2 h3 h4 => by
  obtain ⟨k, c, g1, g2, g3, g4, _⟩ := inpAt_slot hr e h1 h2
  obtain ⟨l, c', f1, f2, f3, f4, _⟩ := inpAt_slot hr e h3 h4
  by_cases q : k = l
  · subst q; exact nij (refs_inj nd g1 f1)
  · exact R.sep k l c c' a q g2 g3 f2 f3 g4 f4
theorem Rel.called (R : Rel K x F σ H δ) {vs : List V} {as : List Ar} {cs outs : List Cell} (hr : ArR K F σ vs as) (e : arCells δ as = some cs) (nd : (refsOf as).Nodup) {F' H' : Hp} (g : CGrw K F H vs cs outs F' H') :
    Rel K x F' σ H' (putBack as outs δ) := by
  have nG : ∀ a, inpAt vs cs a -> x.G a = none ∧ F a = none ∧ F' a = none := fun a ⟨j, d, h1, h2⟩ => by
    obtain ⟨k, c, g1, g2, g3, g4, _⟩ := inpAt_slot hr e h1 h2
    have z := R.own k c a g2 g3 g4
    exact ⟨z.2, z.1, (g.o j a d h1 h2).1⟩
  have hG : ∀ a o, x.G a = some o -> H' a = some o := fun a o h => g.h a o (R.frm _ _ h) fun z => by
    rw [(nG a z).1] at h; cases h
  -- a slot's own address that is not handed on
  have hF : ∀ a u, H a = some u -> F a = none -> F' a = none := fun a u h n => by
    cases w : F' a with
    | none => rfl
    | some v =>
      have := g.n a n (by rw [w]; exact fun z => by cases z)
      rw [h] at this; cases this
  have ownF : ∀ (i : Nat) (c : Cell) (a : Addr), δ[i]? = some c -> c.isOwn = true -> σ[i]? = some (some (V.ref a)) -> F' a = none ∧ x.G a = none := fun i c a h1 h2 h3 => by
    obtain ⟨z1, z2⟩ := R.own i c a h1 h2 h3
    obtain ⟨b, e1, u, e2⟩ := (R.slot i c h1).ownA h2
    rw [h3] at e1; cases e1
    exact ⟨hF a u e2 z1, z2⟩
  refine ⟨by rw [putBack_length]; exact R.len, g.s, hG, R.f0.trans g.f, fun a q => ?_, fun i c' h => ?_, fun i c' a h o z => ?_, fun i j c' e' a nij h1 o1 h2 o2 z => ?_, fun p hp => ?_, fun i d h => ?_⟩
  · by_cases z : F a = none
    · exact .inr (R.nG (g.n a z q))
    · exact R.ext a z
  · obtain ⟨c, h1, h2⟩ := putBack_get as outs δ i c' nd h
    have hs := R.slot i c h1
    have keep : c' = c -> (c.isOwn = true -> ∀ a, σ[i]? = some (some (V.ref a)) -> ¬ inpAt vs cs a) -> SlotR K F' H' σ[i]? c' := fun ec no => by
      subst ec
      exact hs.mono g.f fun a o oc z w => g.h a o w (no oc a z)
    rcases h2 with ⟨ec, h3⟩ | ⟨j, d, h3, h4, ec⟩
    · refine keep ec fun oc a z ⟨j, d, w1, w2⟩ => ?_
      obtain ⟨k, c2, g1, g2, g3, g4, _⟩ := inpAt_slot hr e w1 w2
      obtain ⟨_, d', w3, _⟩ := g.o j a d w1 w2
      by_cases q : i = k
      · subst q; exact h3 j d' g1 w3
      · exact R.sep i k c c2 a q h1 oc g2 g3 z g4
    · obtain ⟨v, w1, w2⟩ := hr.get h3
      obtain ⟨cj, w3, w4⟩ := arCells_get e h3
      have own : ∀ a d0, v = .ref a -> arCell δ (.r i) = some (.inp d0) -> OwnAt K F' H' a d := fun a d0 ev ea => by
        subst ev
        rw [ea] at w4; cases w4
        obtain ⟨_, d', u1, u2⟩ := g.o j a d0 w1 w3
        rw [h4] at u1; cases u1
        exact u2
      cases c with
      | emp => exact keep ec fun z => by cases z
      | pure d0 => exact keep ec fun z => by cases z
      | own d0 =>
        subst ec
        obtain ⟨a, u1, u2⟩ := hs
        rw [w2] at u1; cases u1
        exact ⟨a, w2, own a d0 rfl (by simp only [arCell, h1])⟩
      | inp d0 =>
        subst ec
        obtain ⟨a, u1, u2⟩ := hs
        rw [w2] at u1; cases u1
        exact ⟨a, w2, own a d0 rfl (by simp only [arCell, h1])⟩
  · obtain ⟨c, h1, h2⟩ := putBack_own nd h
    exact ownF i c a h1 (h2.trans o) z
  · obtain ⟨c1, g1, g2⟩ := putBack_own nd h1
    obtain ⟨c2, g3, g4⟩ := putBack_own nd h2
    exact R.sep i j c1 c2 a nij g1 (g2.trans o1) g3 (g4.trans o2) z
  · obtain ⟨h1, d, h2⟩ := R.par p hp
    refine ⟨h1, ?_⟩
    have hlt : p.1 < (putBack as outs δ).length := by rw [putBack_length]; exact (List.getElem?_eq_some_iff.mp h2).1
    obtain ⟨c, h3, h4⟩ := putBack_get as outs δ p.1 _ nd (List.getElem?_eq_getElem hlt)
    rw [h2] at h3; cases h3
    rcases h4 with ⟨h4, _⟩ | ⟨j, d', _, _, h4⟩
    · exact ⟨d, by rw [List.getElem?_eq_getElem hlt, h4]⟩
    · exact ⟨d', by rw [List.getElem?_eq_getElem hlt, h4]; rfl⟩
  · obtain ⟨c, h3, h4⟩ := putBack_get as outs δ i _ nd h
    rcases h4 with ⟨h4, _⟩ | ⟨j, d', _, _, h4⟩
    · subst h4; exact R.inp i d h3
    · cases c with
      | inp d0 => exact R.inp i d0 h3
      | _ => cases h4
end
end DE

/-! DE9: calls and methods as expressions. -/
namespace DE
open PySem PySem.Spec PyProof.Rows L2

/-- a def stands at a name, and keeps what Γ tells of it -/
def CallOk (Γ : Calls) (X : Cx) (f : Str) : Prop := ∃ k a fd ps, (Room k X.A ∧ Room k X.A.in1.in1) ∧ X.mg f = some (.ref a) ∧ PySem.W.keepIn X.K (.ref a) = true ∧ Binds X.K fd ps [] ∧
  FnOk X.prog X.w X.K X.mg X.base (L2.CX X.prog X.w) k a fd ps (spD X.K Γ f)
section
variable {X : Cx} {Γ : Calls} {gl : Str -> Option D} {W : WX} {a b d : Expr} {ca cb cd : CE} {pos : Pos} {es : List Expr} {ces : CEs}
theorem snd_as_nil : PA X [] (tAs X.K Γ gl W .nil) :=
  PA.imp pa_nil fun σ H Q ⟨x, F, δ, R, p⟩ => by
    unfold evalAs at p
    exact p F H [] R (Same.refl _) .nil
theorem ArR.mono {K : PySem.W.Frag} {F F' : Hp} {σ : L2.St} (s : Same F F') : ∀ {vs : List V} {as : List Ar}, ArR K F σ vs as -> ArR K F' σ vs as
  | _, _, .nil => .nil
  | _, _, .d h t => .d (h.mono s) (ArR.mono s t)
  | _, _, .r h t => .r h (ArR.mono s t)
theorem snd_as_val {e : Expr} {c : CE} {cas : CAs} (hs : noStar e = true) (he : PE X e (tE X.K Γ gl W c)) (hr : PA X es (tAs X.K Γ gl W cas)) : PA X (e :: es) (tAs X.K Γ gl W (.val c cas)) :=
  PA.imp (pa_cons he hr (noStar_each hs)) fun σ H Q ⟨x, F, δ, R, p⟩ => by
    unfold evalAs at p
    refine ⟨x, F, δ, R, p.bind fun r1 δ1 F1 H1 v R1 s1 rv1 p1 => ?_⟩
    cases e1 : esc r1 δ1 with
    | no => rw [e1] at p1; exact p1.elim
    | ex e δ2 => exact absurd e1 esc_nex
    | ok dt δ2 =>
      rw [e1] at p1
      simp only [Out.bind] at p1
      obtain ⟨F2, R2, s2, hd⟩ := R1.esc rv1 e1
      refine ⟨x, F2, δ2, R2, (PostG.base s2 p1).bind fun ds δ3 F3 H3 vs R3 s3 hds p3 => ?_⟩
      exact p3 F3 H3 (v :: vs) R3 (Same.refl _) (.d (hd.mono s3) hds)
theorem snd_as_ref {i : Nat} {y : Str} {p : Pos} {cas : CAs} (hN : X.N[i]? = some y) (hv : Vis X.env.scope y) (h1 : (y == ("__debug__" : Str)) = false) (h2 : (y == ("__classdict__" : Str)) = false) (hr : PA X es (tAs X.K Γ gl W cas)) : PA X (.Name y p :: es) (tAs X.K Γ gl W (.ref i cas)) := by
  refine ⟨fun pos pins s σ H Q I h => ?_⟩
  obtain ⟨x, F, δ, R, p⟩ := h
  unfold evalAs at p
  -- the slot's value
  have hv2 : ∃ v, σ[i]? = some (some v) := by
    cases e : δ[i]? with
    | none => simp only [e] at p; exact p.elim
    | some c =>
      have hs := R.slot i c e
      cases c with
      | emp => simp only [e] at p; exact p.elim
      | pure d => obtain ⟨v, h, _⟩ := hs; exact ⟨_, h⟩
      | own d => obtain ⟨v, h, _⟩ := hs; exact ⟨_, h⟩
      | inp d => obtain ⟨v, h, _⟩ := hs; exact ⟨_, h⟩
  obtain ⟨v, hv2⟩ := hv2
  have p2 : PostG X.K x σ W (fun F' _ _ vs as => ArR X.K F' σ vs as) ((evalAs Γ gl cas δ).bind fun ds δ3 => .ok (.r i :: ds) δ3) F Q := by
    cases e : δ[i]? with
    | none => simp only [e] at p; exact p.elim
    | some c =>
      cases c with
      | emp => simp only [e] at p; exact p.elim
      | _ => simp only [e] at p; exact p
  refine (pa_cons (pe_var hN hv h1 h2) hr (noStar_each rfl)).run pos pins s σ H Q I ⟨v, hv2, x, F, δ, R, p2.bind fun ds δ3 F3 H3 vs R3 s3 hds p3 => ?_⟩
  exact p3 F3 H3 (v :: vs) R3 (Same.refl _) (.r hv2 hds)
/-- what the promise asks of a call, out of the data -/
theorem call_sp {K : PySem.W.Frag} {f : Str} {x : Fx} {F H : Hp} {σ : L2.St} {δ : DEnv} {vs : List V} {ars : List Ar} {Q : VK} (R : Rel K x F σ H δ) (hr : ArR K F σ vs ars)
    (p : PostG K x σ W (RV K x σ) (callA Γ f ars δ) F Q) : spD K Γ f vs H Q (WE W σ) := by
  unfold callA at p
  split at p
  · rename_i nd
    cases e : arCells δ ars with
    | none => simp only [e] at p; exact p.elim
    | some cs =>
      simp only [e] at p
      refine ⟨F, cs, R.sub, hr.args R e, hr.apart R e nd, ?_⟩
      cases q : Γ f cs with
      | no => simp only [q] at p; exact p.elim
      | exc ee outs =>
        simp only [q] at p
        exact fun F' H' cls d g r => p F' H' cls d (R.called hr e nd g) g.f r
      | ret c outs =>
        cases c with
        | emp => simp only [q] at p; exact p.elim
        | inp _ => simp only [q] at p; exact p.elim
        | pure d =>
          simp only [q] at p
          exact fun F' H' v g r => p F' H' v (R.called hr e nd g) g.f r
        | own d =>
          simp only [q] at p
          refine fun F' H' v g r => p F' H' v (R.called hr e nd g) g.f ?_
          obtain ⟨a, rfl, o, nF, nH⟩ := r
          refine ⟨a, rfl, o, nF, R.nG nH, fun i c h oc z => ?_⟩
          obtain ⟨c0, h1, h2⟩ := putBack_own nd h
          obtain ⟨b, e1, w, e2⟩ := (R.slot i c0 h1).ownA (h2.trans oc)
          rw [z] at e1; cases e1
          rw [nH] at e2; cases e2
  · exact p.elim
theorem snd_call0 {f : Str} {p : Pos} (tk : Takes X W) (C : CallOk Γ X f) (hg : Gl X f) (hd : (f == ("__debug__" : Str)) = false) : PE X (.Call (.Name f p) [] [] pos) (tE X.K Γ gl W (.call f .nil)) := by
  obtain ⟨k, a, fd, ps, ⟨rm, _⟩, hm, kp, hb, FO⟩ := C
  refine ⟨fun pins s σ H Q I h => ?_⟩
  obtain ⟨x, F, δ, R, pp⟩ := h
  unfold evalE at pp
  unfold evalAs at pp
  simp only [Out.bind] at pp
  refine wpAny_Call_Name_kw (ld_glob I hg hm (PySem.W.callWith_K0 I.kIn kp ?_) hd)
  exact run_fnS (us := []) (vs := []) FO rm hb (passAt tk σ) I .nil (call_sp R .nil pp)
theorem snd_call {f : Str} {p : Pos} {cas : CAs} {e : Expr} (tk : Takes X W) (C : CallOk Γ X f) (hg : Gl X f) (hd : (f == ("__debug__" : Str)) = false) (hs : (e :: es).all noStar = true) (ha : PA X (e :: es) (tAs X.K Γ gl W cas)) :
    PE X (.Call (.Name f p) (e :: es) [] pos) (tE X.K Γ gl W (.call f cas)) := by
  obtain ⟨k, a, fd, ps, ⟨rm, _⟩, hm, kp, hb, FO⟩ := C
  have hs' := hs
  rw [List.all_cons, Bool.and_eq_true] at hs'
  refine PE.imp (pe_callS FO rm hg hm kp hb (fun σ => passAt tk σ) ha hd (noStar_each hs'.1) (plainStar hs'.2)) fun σ H Q ⟨x, F, δ, R, pp⟩ => ?_
  unfold evalE at pp
  exact ⟨x, F, δ, R, pp.bind fun ars δ1 F1 H1 vs R1 s1 hr p1 => call_sp R1 hr p1⟩

/-! ### an own object changed -/
theorem Rel.mut {K : PySem.W.Frag} {x : Fx} {F H : Hp} {σ : L2.St} {δ : DEnv} (R : Rel K x F σ H δ) {i : Nat} {c : Cell} {a : Addr} {o : HO} {d' : D} (q : δ[i]? = some c) (oc : c.isOwn = true) (hs : σ[i]? = some (some (V.ref a)))
    (ho : OwnAt K F (upd H a o) a d') : Rel K x F σ (upd H a o) (δ.set i (backTo1 c d')) := by
  obtain ⟨nF, nG⟩ := R.own i c a q oc hs
  have hi : i < δ.length := (List.getElem?_eq_some_iff.mp q).1
  refine ⟨by rw [List.length_set]; exact R.len, same_updR R.sub nF, same_updR R.frm nG, R.f0, R.ext, fun j e z => ?_, fun j e b z o2 w => ?_, fun j k e e2 b njk z1 o1 z2 o2 w => ?_, fun p hp => ?_, fun j d z => ?_⟩
  · rcases set_get z with ⟨rfl, rfl, _⟩ | ⟨nj, z⟩
    · cases c with
      | emp => cases oc
      | pure _ => cases oc
      | own _ => exact ⟨a, hs, ho⟩
      | inp _ => exact ⟨a, hs, ho⟩
    · refine (R.slot j e z).mono (Same.refl _) fun b u oe zb w => ?_
      rw [upd_ne]
      · exact w
      · rintro rfl; exact R.sep j i e c b nj z oe q oc zb hs
  · rcases set_get z with ⟨rfl, rfl, _⟩ | ⟨nj, z⟩
    · rw [hs] at w; cases w; exact ⟨nF, nG⟩
    · exact R.own j e b z o2 w
  · rcases set_get z1 with ⟨rfl, rfl, _⟩ | ⟨nj, y1⟩
    · rcases set_get z2 with ⟨rfl, _, _⟩ | ⟨nk, y2⟩
      · exact absurd rfl njk
      · exact R.sep _ k c e2 b njk q oc y2 o2 w
    · rcases set_get z2 with ⟨rfl, rfl, _⟩ | ⟨nk, y2⟩
      · exact R.sep j _ e c b njk y1 o1 q oc w
      · exact R.sep j k e e2 b njk y1 o1 y2 o2 w
  · obtain ⟨h1, d, h2⟩ := R.par p hp
    refine ⟨h1, ?_⟩
    by_cases z : p.1 = i
    · rw [z] at h2 ⊢
      rw [q] at h2; cases h2
      exact ⟨d', by rw [List.getElem?_set_self hi]; rfl⟩
    · exact ⟨d, by rw [List.getElem?_set_ne (Ne.symm z)]; exact h2⟩
  · rcases set_get z with ⟨rfl, h, _⟩ | ⟨nj, z⟩
    · cases c with
      | inp d0 => exact R.inp _ d0 q
      | _ => cases h
    · exact R.inp j d z
end
end DE

/-! DE10: methods. -/
namespace DE
open PySem PySem.Spec PyProof.Rows L2
def Mf.ty : Mf -> String
  | .append => "list" | .reverse => "list" | .get => "dict" | .isupper => "str"
def Mf.id : Mf -> String
  | .append => "list.append" | .reverse => "list.reverse" | .get => "dict.get" | .isupper => "str.isupper"
/-- a method's reading over data -/
def rMth (K : PySem.W.Frag) (m : Mf) : V -> List V -> Hp -> VK -> Prop := fun v vs H Q => ∃ F d ds, Same F H ∧ DatL K F vs ds ∧
  ((∃ r, RdV K F H v d ∧ mthD m d ds = some (r, none) ∧ ∀ F' H' u, Grw F H F' H' -> ResN K H F' H' u r -> Q u H') ∨
   (∃ a r d', v = .ref a ∧ F a = none ∧ OwnAt K F H a d ∧ mthD m d ds = some (.pure r, some d') ∧ ∀ o u, OwnAt K F (upd H a o) a d' -> Dat K F u r -> Q u (upd H a o)))
section
variable {X : Cx} {Γ : Calls} {gl : Str -> Option D} {W : WX} {a b d : Expr} {ca cb cd : CE} {pos : Pos} {es : List Expr} {ces : CEs}
theorem getRun {v : V} {vs : List V} {vv : Value} {us : List Value} {pins : List (Addr × Obj)} {σ : L2.St} {H : Hp} {s : Shared} {Q : VK} {F : Hp} {kvs : List (D × D)} {ds : List D} {r : Rv} {o : Option D} (hu : X.A.units + 1 < cLine) (I : Inv X pins σ H s) (rv : RelV v vv) (rs : Vals vs us) (sF : Same F H) (hds : DatL X.K F vs ds) (hd : RdV X.K F H v (.dict kvs))
    (e : mthD .get (.dict kvs) ds = some (r, o)) (q : ∀ F' H' u, Grw F H F' H' -> ResN X.K H F' H' u r -> Q u H') : wpAny (model X.prog X.w) X.A (call (.builtin "dict.get") (vv :: us)) (EP X pins σ Q) X.xe s := by
  obtain ⟨a, ks, rfl, h1, t1⟩ := hd.dict sF
  obtain rfl : vv = Value.ref a := rv
  match ds, hds, e with
  | [d], .cons hd1 .nil, e =>
    simp only [mthD] at e
    cases ek : keyD d with
    | none => rw [ek] at e; cases e
    | some k =>
      rw [ek] at e
      cases e
      cases rs with
      | cons rk rs =>
        cases rs
        obtain rfl := RdV.key (K := X.K) (F := F) (H := H) (.inl hd1) ek
        refine d_get1 hu I (.inl ⟨ks, k, .inl h1, rfl, rfl⟩) rk fun w' s' J rw' => ⟨_, H, J, rw', ?_⟩
        rcases t1.val k with ⟨z1, z2⟩ | ⟨x, y, z1, z2, z3⟩
        · rw [z1]; exact fin_pure sF q (by rw [z2]; rfl) .non
        · rw [z1]; exact fin_pure sF q (by rw [z2]; rfl) z3
  | [d, x], .cons hd1 (.cons hd2 .nil), e =>
    simp only [mthD] at e
    cases ek : keyD d with
    | none => rw [ek] at e; cases e
    | some k =>
      rw [ek] at e
      cases e
      cases rs with
      | cons rk rs =>
        cases rs with
        | cons rx rs =>
          cases rs
          obtain rfl := RdV.key (K := X.K) (F := F) (H := H) (.inl hd1) ek
          refine d_get2 hu I (.inl ⟨ks, k, .inl h1, rfl, rfl⟩) rk rx fun w' s' J rw' => ⟨_, H, J, rw', ?_⟩
          rcases t1.val k with ⟨z1, z2⟩ | ⟨x', y, z1, z2, z3⟩
          · rw [z1]; exact fin_pure sF q (by rw [z2]; rfl) hd2
          · rw [z1]; exact fin_pure sF q (by rw [z2]; rfl) z3
theorem get_none {d : D} {ds : List D} {r : Rv} {d' : D} (e : mthD .get d ds = some (r, some d')) : False := by
  cases d with
  | dict kvs => match ds, e with
    | [k], e => simp only [mthD] at e; cases ek : keyD k <;> rw [ek] at e <;> cases e
    | [k, x], e => simp only [mthD] at e; cases ek : keyD k <;> rw [ek] at e <;> cases e
    | [], e => cases e
    | _ :: _ :: _ :: _, e => cases e
  | _ => cases e
theorem mthRun (hu : X.A.units + 1 < cLine) (m : Mf) : MtR X m.id (rMth X.K m) := by
  intro pins s σ H v vs vv us Q I rv rs h
  obtain ⟨F, d, ds, sF, hds, h⟩ := h
  cases m with
  | append =>
    rcases h with ⟨r, hd, e, q⟩ | ⟨a, r, d', rfl, nF, ho, e, q⟩
    · cases d with
      | list xs => match ds, e with
        | [y], e => simp only [mthD] at e; split at e <;> cases e
      | _ => cases e
    · cases d with
      | list xs => match ds, hds, e with
        | [y], hds, e =>
          simp only [mthD] at e
          split at e
          · rename_i hz
            cases e
            obtain ⟨ws, ho, t⟩ := ho
            cases hds with
            | cons hy n =>
              cases n
              exact mt_append pins s σ H _ _ vv us Q I rv rs ⟨a, ws, _, rfl, rfl, ho, by rw [t.length]; exact hz, q _ _ ⟨_, upd_same, t.append (.cons hy .nil)⟩ .non⟩
          · cases e
      | dict _ => simp [mthD] at e
      | _ => exact ho.elim
  | reverse =>
    rcases h with ⟨r, hd, e, q⟩ | ⟨a, r, d', rfl, nF, ho, e, q⟩
    · cases d with
      | list xs => match ds, e with
        | [], e => cases e
      | _ => cases e
    · cases d with
      | list xs => match ds, hds, e with
        | [], hds, e =>
          cases e
          cases hds
          obtain ⟨ws, ho, t⟩ := ho
          exact mt_reverse pins s σ H _ _ vv us Q I rv rs ⟨a, ws, rfl, rfl, ho, q _ _ ⟨_, upd_same, t.reverse⟩ .non⟩
      | dict _ => simp [mthD] at e
      | _ => exact ho.elim
  | get =>
    rcases h with ⟨r, hd, e, q⟩ | ⟨a, r, d', rfl, nF, ho, e, q⟩
    · cases d with
      | dict kvs => exact getRun hu I rv rs sF hds hd e q
      | _ => cases e
    · exact (get_none e).elim
  | isupper =>
    rcases h with ⟨r, hd, e, q⟩ | ⟨a, r, d', rfl, nF, ho, e, q⟩
    · cases d with
      | str z => match ds, hds, e with
        | [], .nil, e =>
          cases e
          obtain rfl := hd.str
          exact mt_isupper pins s σ H _ _ vv us Q I rv rs ⟨z, rfl, rfl, True.intro, fin_pure sF q rfl (.bl _)⟩
      | _ => cases e
    · cases d <;> cases ds <;> cases e
theorem mthFacts (m : Mf) : PlainAttrs m.ty ∧ Slot m.ty (Str.ofString m.nm) m.id ∧ typeOf (.builtin m.id) = pure (.type "method_descriptor") := by
  cases m with
  | append => exact ⟨PySem.F.plainAttrs_list, PySem.F.slot_list_append, PySem.F.type_list_append⟩
  | reverse => exact ⟨PySem.F.plainAttrs_list, PySem.F.slot_list_reverse, PySem.F.type_list_reverse⟩
  | get => exact ⟨PySem.F.plainAttrs_dict, PySem.F.slot_dict_get, PySem.F.type_dict_get⟩
  | isupper => exact ⟨PySem.F.plainAttrs_str, PySem.F.slot_str_isupper, PySem.F.type_str_isupper⟩
theorem mthTy {K : PySem.W.Frag} {F H : Hp} {m : Mf} {v : V} {d : D} (sF : Same F H) (h : RdV K F H v d) (e : okTy m d = true) : tyV K m.ty v H := by
  have lst : ∀ xs, d = .list xs -> tyV K "list" v H := fun xs z => by
    subst z
    obtain ⟨a, us, rfl, h1, _⟩ := h.list sF
    exact .inl ⟨rfl, us, h1⟩
  cases m with
  | append => cases d <;> first | exact lst _ rfl | cases e
  | reverse => cases d <;> first | exact lst _ rfl | cases e
  | get =>
    cases d with
    | dict ks =>
      obtain ⟨a, us, rfl, h1, _⟩ := h.dict sF
      exact .inr (.inr (.inl ⟨rfl, .inl ⟨us, h1⟩⟩))
    | _ => cases e
  | isupper =>
    cases d with
    | str z => obtain rfl := h.str; rfl
    | _ => cases e
/-- what is asked where the method is called -/
theorem mth_red {K : PySem.W.Frag} {m : Mf} {x : Fx} {F H : Hp} {σ : L2.St} {δ : DEnv} {r : Rv} {v : V} {vs : List V} {ds : List D} {Q : VK} (R : Rel K x F σ H δ) (hv : ResV K x F H σ δ v (settle r)) (hds : DatL K F vs ds)
    (p : PostG K x σ W (RV K x σ) (mthA m (settle r) ds δ) F Q) : rMth K m v vs H Q := by
  unfold mthA at p
  cases e1 : rd δ (settle r) with
  | none => simp only [e1] at p; exact p.elim
  | some d =>
    simp only [e1] at p
    cases e2 : mthD m d ds with
    | none => simp only [e2] at p; exact p.elim
    | some z =>
      obtain ⟨y, o⟩ := z
      cases o with
      | none =>
        simp only [e2] at p
        exact ⟨F, d, ds, R.sub, hds, .inl ⟨y, R.read hv e1, e2, fun F' H' u g n => p F' H' u (R.grw g) g.f (R.resN n)⟩⟩
      | some d' =>
        cases y with
        | own _ => simp only [e2] at p; exact p.elim
        | bor _ => simp only [e2] at p; exact p.elim
        | pure y =>
          simp only [e2] at p
          cases e3 : settle r with
          | pure _ => simp only [e3] at p; exact p.elim
          | own _ => simp only [e3] at p; exact p.elim
          | bor i =>
            rw [e3] at hv e1
            simp only [e3] at p
            cases e4 : δ[i]? with
            | none => simp only [e4] at p; exact p.elim
            | some c =>
              simp only [e4] at p
              split at p
              · rename_i oc
                have hs := R.slot i c e4
                have hv : σ[i]? = some (some v) := hv
                simp only [rd, e4] at e1
                have ha : ∃ a, v = .ref a ∧ OwnAt K F H a d := by
                  cases c with
                  | emp => cases oc
                  | pure _ => cases oc
                  | own d0 => cases e1; obtain ⟨a, h1, h2⟩ := hs; rw [hv] at h1; cases h1; exact ⟨a, rfl, h2⟩
                  | inp d0 => cases e1; obtain ⟨a, h1, h2⟩ := hs; rw [hv] at h1; cases h1; exact ⟨a, rfl, h2⟩
                obtain ⟨a, rfl, ho⟩ := ha
                refine ⟨F, d, ds, R.sub, hds, .inr ⟨a, y, d', rfl, (R.own i c a e4 oc hv).1, ho, e2, fun o u ho' hu => ?_⟩⟩
                exact p F _ u (R.mut e4 oc hv ho') (Same.refl _) hu
              · exact p.elim
theorem snd_mth {m : Mf} {apos : Pos} (hu : X.A.units + 1 < cLine) (hb : noSuper a = true) (hl : (apos.endLine == pos.line) = true) (hz : es.length < 30) (hs : es.all noStar = true) (ho : PE X a (tE X.K Γ gl W ca)) (ha : PA X es (tEs X.K Γ gl W ces)) (hn : es = [] -> ces = .nil) :
    PE X (.Call (.Attribute a (Str.ofString m.nm) apos) es [] pos) (tE X.K Γ gl W (.mth m ca ces)) := by
  have hbase : attributeBase a (Str.ofString m.nm) X.env (eval a X.env) = eval a X.env := by
    cases a with
    | Call f as ks p => cases f with
      | Name id p2 => cases as with
        | nil => cases ks with
          | nil => simp [noSuper] at hb
          | cons _ _ => rfl
        | cons _ _ => cases ks <;> rfl
      | _ => rfl
    | _ => rfl
  obtain ⟨pa, slot, hty⟩ := mthFacts m
  have red : ∀ σ H Q, tE X.K Γ gl W (.mth m ca ces) σ H Q -> tBM X.K m.ty (rMth X.K m) (tE X.K Γ gl W ca) (tEs X.K Γ gl W ces) σ H Q := fun σ H Q ⟨x, F, δ, R, p⟩ => by
    unfold evalE at p
    refine ⟨x, F, δ, R, p.bind fun r1 δ1 F1 H1 v R1 s1 rv1 p1 => ?_⟩
    cases e1 : rd δ1 r1 with
    | none => simp only [e1] at p1; exact p1.elim
    | some d =>
      simp only [e1] at p1
      split at p1
      · rename_i ok
        refine ⟨mthTy R1.sub (R1.read rv1 e1) ok, ?_⟩
        obtain ⟨F2, R2, s2, rv2⟩ := R1.settle rv1
        refine ⟨x, F2, δ1, R2, (PostG.base s2 p1).bind fun ds δ3 F3 H3 vs R3 s3 hds p3 => ?_⟩
        exact mth_red R3 (rv2.stay s3) hds p3
      · exact p1.elim
  cases es with
  | nil =>
    refine PE.imp (pe_bm0 pa slot hty (mthRun hu m) ho hbase hl) fun σ H Q h => ?_
    obtain rfl := hn rfl
    have z := red σ H Q h
    obtain ⟨x, F, δ, R, p⟩ := z
    refine ⟨x, F, δ, R, ?_⟩
    cases e : evalE Γ gl ca δ with
    | no => rw [e] at p; exact p
    | ex e2 δ2 => rw [e] at p; exact p
    | ok r δ1 =>
      rw [e] at p
      intro F' H' v R' s' rv
      obtain ⟨ty, x2, F2, δ2, R2, p2⟩ := p F' H' v R' s' rv
      unfold evalEs at p2
      exact ⟨ty, p2 F2 H' [] R2 (Same.refl _) .nil⟩
  | cons e es' =>
    have hs' := hs
    rw [List.all_cons, Bool.and_eq_true] at hs'
    refine PE.imp (pe_bm pa slot hty (mthRun hu m) ho ha hbase ?_ hl (noStar_each hs'.1) (plainStar hs'.2)) red
    have star : ∀ es : List Expr, es.all noStar = true -> (backTo pos (starEach es X.env)).all (fun x => !x.1) = true := fun es => by
      induction es with
      | nil => intro _; simp only [starEach]; rfl
      | cons e r ih =>
        intro h
        rw [List.all_cons, Bool.and_eq_true] at h
        rw [noStar_each h.1]
        show (!false && (backTo pos (starEach r X.env)).all (fun x => !x.1)) = true
        rw [ih h.2]; rfl
    rw [star _ hs]
    have hk : (backToKw pos (keywordEach [] X.env)).all (fun x => x.1.isSome) = true := by simp only [keywordEach]; rfl
    rw [hk]
    show (true && true && decide ((e :: es').length + 0 + 0 < 30)) = true
    rw [decide_eq_true (by simpa using hz)]; rfl
end
end DE

/-! DS1: sorted by the answers of a def. -/
namespace DE
open PySem PySem.Spec PyProof.Rows L2
theorem Grw.trans {F H F' H' F2 H2 : Hp} (g : Grw F H F' H') (g2 : Grw F' H' F2 H2) : Grw F H F2 H2 :=
  ⟨g.f.trans g2.f, g2.s, fun a o e => g2.h a o (g.h a o e), fun a e1 e2 => by
    by_cases z : F' a = none
    · have w := g2.n a z e2
      cases q : H a with
      | none => rfl
      | some o => rw [g.h a o q] at w; cases w
    · exact g.n a e1 z⟩
section
variable {X : Cx} {Γ : Calls} {pins : List (Addr × Obj)} {σ : L2.St}
/-- one call for a key -/
theorem key_call {f : Str} {k : Nat} {fa : Addr} {fd : FuncData} {ps : List Str} {A' : Around} (FO : FnOk X.prog X.w X.K X.mg X.base (L2.CX X.prog X.w) k fa fd ps (spD X.K Γ f)) (hr : Room k A') (hb : Binds X.K fd ps [])
    {s : Shared} {F H : Hp} {v : V} {u : Value} {d kd : D} {outs : List Cell} (I : Inv X pins σ H s) (e0 : Env0 X.prog X.w X.K X.mg X.base A' X.stack s H) (sF : Same F H) (hv : Dat X.K F v d) (r : RelV v u) (hk : Γ f [.pure d] = .ret (.pure kd) outs) :
    wpAny (model X.prog X.w) A' (call (.ref fa) [u]) (fun ku s' => ∃ F' H' kv, Inv X pins σ H' s' ∧ RelV kv ku ∧ Grw F H F' H' ∧ Dat X.K F' kv kd) (fun _ _ => False) s := by
  have hsp : spD X.K Γ f [v] H (fun kv H' => ∃ F', Grw F H F' H' ∧ Dat X.K F' kv kd) (fun _ _ _ => False) := by
    refine ⟨F, [.pure d], sF, .pure hv .nil, fun i j b d1 d2 _ _ h4 => ?_, ?_⟩
    · cases i with
      | zero => simp at h4
      | succ i => simp at h4
    · rw [hk]
      intro F' H' kv g hd
      have no : ∀ a, ¬ inpAt [v] [.pure d] a := fun a ⟨j, d', _, z⟩ => by
        cases j with
        | zero => simp at z
        | succ j => simp at z
      exact ⟨F', ⟨g.f, g.s, fun a o e => g.h a o e (no a), g.n⟩, hd⟩
  have hl : [u].length = ps.length := by rw [List.length_singleton]; exact FO.len _ _ _ _ hsp
  have b := hb s [u] I.kIn (by rw [List.append_nil]; exact hl)
  rw [List.append_nil] at b
  refine wpAny_call (codeAny_mono (FO.run A' X.stack s H ⟨[u], []⟩ [u] [v] _ _ hr e0 b (.cons r .nil) hsp) fun r s' hq => ?_)
  cases r with
  | error e =>
    obtain ⟨_, _, _, _, _, _, _, _, _, _, _, _, z⟩ := hq
    exact z.elim
  | ok fl =>
    cases fl with
    | ret u' =>
      obtain ⟨kv, H', J, rv, F', g, hd⟩ := I.after hq
      exact ⟨F', H', kv, J, rv, g, hd⟩
    | next => exact False.elim hq
    | brk => exact False.elim hq
    | cont => exact False.elim hq
open PySem.W in
/-- the keys are asked for, then the items are put in order -/
theorem ksrt_rest {f : Str} {k : Nat} {fa : Addr} {fd : FuncData} {ps : List Str} (FO : FnOk X.prog X.w X.K X.mg X.base (L2.CX X.prog X.w) k fa fd ps (spD X.K Γ f)) (hr : Room k X.A.in1.in1) (hb : Binds X.K fd ps [])
    {s : Shared} {F H : Hp} {a kS : Addr} {its : List Value} {vs : List V} {ds kds : List D} {e1 : Nat} {P : PySem.Fin → Shared → Prop} {E : Value → Shared → Prop} (I : Inv X pins σ H s) (ga : FpOk X pins H a) (gk : FpOk X pins H kS)
    (nk : s.heap.get? kS = some (seqObj "list" #[] 0)) (na : s.heap.get? a = some (seqObj "list" #[] e1)) (hka : kS ≠ a) (sF : Same F H) (hD : DatL X.K F vs ds) (rv : Vals vs its)
    (keys : ∀ (i : Nat) (d : D), ds[i]? = some d -> ∃ kd outs, kds[i]? = some kd ∧ Γ f [.pure d] = .ret (.pure kd) outs) (hlen : kds.length = ds.length) (hal : AllAlike kds) (hsk : Sortable kds) (hpl : PyData.plainAll kds = true) (hu : ∀ kd, kd ∈ kds -> X.A.in1.in1.units + kd.depth < cLine) (hZ : its.length ≤ sizeLine)
    (h : ∀ (F' H' : Hp) (s' : Shared) (out : List Value) (c : Nat), Inv X pins σ H' s' -> FpOk X pins H' a -> Grw F H F' H' -> s'.heap.get? a = some (seqObj "list" (List.toArray out) c) -> KeyedOut false kds its out -> P (.done (.ret .none)) s') :
    wpAny (model X.prog X.w) X.A.in1.in1 (ksk_rest a (.ref fa) false its.toArray e1 (.ref kS)) P E s := by
  have hl1 : its.length = ds.length := by rw [← rv.length, hD.length]
  unfold ksk_rest
  refine wpAny_bind (wpAny_rule ?_)
  first
    | rw [List.forIn_toArray]
    | (rw [← Array.forIn_toList]; simp only [List.toList_toArray])
  refine wpAny_bind (ksk_fold (fun i s' => ∃ (F' H' : Hp) (kvs : List V) (kA : Array Value) (e : Nat), Inv X pins σ H' s' ∧ FpOk X pins H' a ∧ FpOk X pins H' kS ∧ Grw F H F' H' ∧ s'.heap.get? kS = some (seqObj "list" kA e) ∧ s'.heap.get? a = some (seqObj "list" #[] e1) ∧ Vals kvs kA.toList ∧ DatL X.K F' kvs (kds.take i)) its 0 s
    ⟨F, H, [], #[], 0, I, ga, gk, Grw.refl sF, nk, na, .nil, by rw [List.take_zero]; exact .nil⟩ ?step ?done)
  case step =>
    rintro j x s' hx ⟨F', H', kvs, kA, e, J, ga', gk', g, nk', na', rk, hk⟩
    rw [Nat.zero_add] at hk ⊢
    have hj : j < its.length := (List.getElem?_eq_some_iff.mp hx).1
    obtain ⟨d, hd⟩ : ∃ d, ds[j]? = some d := ⟨_, List.getElem?_eq_getElem (by omega)⟩
    obtain ⟨v, hv, hvd⟩ := hD.get hd
    obtain ⟨kd, outs, hkd, hcall⟩ := keys j d hd
    obtain ⟨x', hx', rx⟩ := rv.get hv
    rw [hx] at hx'; cases hx'
    have hz : kA.size ≤ its.length := by
      have h1 := rk.length
      have h2 : kA.toList.length = kA.size := Array.length_toList
      rw [hk.length, List.length_take, h2] at h1
      omega
    have Jp := J.pinned (fp := [a, kS]) (fun b hb => by
      rcases List.mem_cons.mp hb with rfl | hb
      · exact ga'
      · obtain rfl := List.mem_singleton.mp hb; exact gk') (fun b hb => by
      rcases List.mem_cons.mp hb with rfl | hb
      · exact ⟨_, na', fun v z => by cases z⟩
      · obtain rfl := List.mem_singleton.mp hb; exact ⟨_, nk', fun v z => by cases z⟩)
    refine wpAny_bind (wpAny_attempt (wpAny_mono (key_call FO hr hb Jp Jp.env0.in1.in1 g.s (hvd.mono g.f) rx hcall) (fun ku s2 hq => ?_) fun _ _ z => z.elim))
    obtain ⟨F2, H2, kv, J2, rk2, g2, hkv⟩ := hq
    have p1 := J2.pin (a, _) (List.mem_append_right _ (List.mem_append_right _ (mem_pinsAt (List.mem_cons_self ..) na')))
    have p2 := J2.pin (kS, _) (List.mem_append_right _ (List.mem_append_right _ (mem_pinsAt (List.mem_cons_of_mem _ (List.mem_singleton.mpr rfl)) nk')))
    have na2 : s2.heap.get? a = some (seqObj "list" #[] e1) := p1.1
    have nk2 : s2.heap.get? kS = some (seqObj "list" kA e) := p2.1
    have J2' : Inv X pins σ H2 s2 := J2.unpinned
    have ga2 : FpOk X pins H2 a := ⟨p1.2.1, ga'.2⟩
    have gk2 : FpOk X pins H2 kS := ⟨p2.2.1, gk'.2⟩
    have s1 := Heap.SameBut.update s2.heap kS (Obj.mapSeq (·.push ku))
    obtain ⟨c2, hc2⟩ : ∃ c2, (s2.heap.update kS (Obj.mapSeq (·.push ku))).get? kS = some (seqObj "list" (kA.push ku) c2) := ⟨_, get?_update_seq nk2 (·.push ku)⟩
    refine wpAny_bind (listUpdate_at nk2 rfl ?_ (Nat.le_trans hz hZ) (Nat.le_trans (Nat.le_of_eq (Array.size_push ..)) (Nat.succ_le_succ (Nat.le_trans hz hZ))))
    refine wpAny_pure ⟨rfl, F2, H2, kvs ++ [kv], kA.push ku, c2, J2'.turnedL (ch := [kS]) (fun b o hb e => (s1.2 b (fun z => hb (by rw [z]; exact List.mem_singleton.mpr rfl))).trans e) (fun b hb => by rw [List.mem_singleton.mp hb]; exact gk2), ga2, gk2, g.trans g2, hc2, (s1.2 a hka.symm).trans na2, ?_, ?_⟩
    · have ea : (kA.push ku).toList = kA.toList ++ [ku] := by simp
      rw [ea]
      exact rk.append (.cons rk2 .nil)
    · have ek : kds.take (j + 1) = kds.take j ++ [kd] := by rw [List.take_add_one, hkd]; simp
      rw [ek]
      exact (hk.mono g2.f).append (.cons hkv .nil)
  case done =>
    rintro s' ⟨F', H', kvs, kA, e, J, ga', gk', g, nk', na', rk, hk⟩
    have e3 : kds.take (0 + its.length) = kds := List.take_of_length_le (by omega)
    rw [e3] at hk
    obtain ⟨as, hR⟩ := Dp.readsAll J kds kvs kA.toList ((hk.mono g.s).dp hpl) rk
    have hk' : EachIs (fun v k => ∃ as, Reads s'.heap v k as) kA.toList kds := by
      have z := readsAll_each (fun d : PyData => d) (vs := kA.toList) (bs := kds) (h := s'.heap) (as := as) (by rw [List.map_id']; exact hR)
      exact z
    have hsz : kA.size = its.length := by
      have h1 := rk.length
      have h2 : kA.toList.length = kA.size := Array.length_toList
      rw [hk.length, h2] at h1
      omega
    try dsimp only
    refine wpAny_bind (listItems_at nk' rfl ?_)
    obtain ⟨h₁, k1, k2⟩ := restrict s'.heap (fun b => b != kS)
    have kp : KeepsBut a h₁ s'.heap := fun b o _ e => by
      by_cases hb : b = kS
      · subst hb
        rw [k2 _ (by simp)] at e; cases e
      · rw [k1 b (by simpa using hb)] at e; exact e
    exact keyH_end (κ := dataKind s'.heap kds) (h₁ := h₁) kp (k2 kS (by simp)) nk' na' hka (SortsAt.data (s := s') hk' hal hsk hu) hsz hZ fun h3 tk3 c k3 n3 => h F' H' _ _ c (J.turnedL (h' := h3) (t' := tk3) (ch := [a, kS]) (fun b o hb e => by
      rw [List.mem_cons, List.mem_singleton, not_or] at hb
      exact k3 b o hb.1 ((k1 b (by simpa using hb.2)).trans e)) (fun b hb => by
      rcases List.mem_cons.mp hb with rfl | hb
      · exact ga'
      · rw [List.mem_singleton.mp hb]; exact gk')) ga' g n3 ⟨s'.heap, kA.toList, hal, rfl, hk'⟩
/-- an object of ours is laid open -/
theorem Inv.lay {s : Shared} {H : Hp} {a : Addr} {o : HO} (J : Inv X pins σ H s) (g : FpOk X pins H a) (new : ObjOk X.prog X.w (upd H a o) s.heap a o) : Inv X pins σ (upd H a o) s := by
  obtain ⟨g0, g1, g2, g3, g4, g5⟩ := g
  refine ⟨J.ok, J.os, J.bare, ⟨J.base.keep, J.base.slot, fun b ob e n hx => ?_, J.base.there, fun b xs e => ?_, fun b ob u e => ?_, fun b ps e => ?_⟩, J.loc, J.cell, ?_, fun y c e => ?_, fun p hp => ?_, HOk.laidN J.hok (fun _ _ e => e) g0 new, J.len⟩
  · rw [upd_ne]
    · exact J.base.free b ob e n hx
    · rintro rfl
      rcases g3 with z | z
      · exact hx z
      · exact absurd (Heap.lt_size e) (Nat.not_lt.mpr z)
  · have w := J.base.tups b xs e
    rw [upd_ne (ne_of_none w g0)]; exact w
  · have w := J.base.frzs b ob u e
    rw [upd_ne (ne_of_none w g0)]; exact w
  · obtain ⟨more, w⟩ := J.base.tbls b ps e
    exact ⟨more, by rw [upd_ne (ne_of_none w g0)]; exact w⟩
  · rw [upd_ne (Ne.symm g1)]; exact J.free
  · rw [upd_ne (g4 y c e)]; exact J.freeC y c e
  · obtain ⟨e, n, ne, nf, d⟩ := J.pin p hp
    exact ⟨e, by rw [upd_ne (g5 p hp)]; exact n, ne, nf, d⟩
theorem each_zip {K : PySem.W.Frag} {F : Hp} : ∀ {vs : List V} {us : List Value} {ds kds : List D}, DatL K F vs ds -> Vals vs us -> kds.length = ds.length -> PySem.W.EachIs (fun (u : Value) (p : D × D) => ∃ v, RelV v u ∧ Dat K F v p.1) us (ds.zip kds)
  | _, _, _, [], .nil, .nil, _ => .nil
  | _, _, _, _ :: _, .nil, .nil, h => by simp at h
  | _, _, _, [], .cons _ _, .cons _ _, h => by simp at h
  | _, _, _, k :: ks, .cons h1 t1, .cons r1 t2, h => .cons ⟨_, r1, h1⟩ (each_zip t1 t2 (by simpa using h))
theorem each_back {K : PySem.W.Frag} {F : Hp} {us : List Value} {ps : List (D × D)} (h : PySem.W.EachIs (fun (u : Value) (p : D × D) => ∃ v, RelV v u ∧ Dat K F v p.1) us ps) : ∃ vs, Vals vs us ∧ DatL K F vs (ps.map (·.1)) := by
  induction h with
  | nil => exact ⟨[], .nil, .nil⟩
  | cons h _ ih =>
    obtain ⟨v, r, d⟩ := h
    obtain ⟨vs, rs, ds⟩ := ih
    exact ⟨v :: vs, .cons r rs, .cons d ds⟩
open PySem.W in
/-- sorted(xs, key=f) -/
theorem ksrt {f : Str} {k : Nat} {fa : Addr} {fd : FuncData} {ps : List Str} (FO : FnOk X.prog X.w X.K X.mg X.base (L2.CX X.prog X.w) k fa fd ps (spD X.K Γ f)) (hr : Room k X.A.in1.in1) (hb : Binds X.K fd ps [])
    {s : Shared} {F H : Hp} {l : Addr} {its : List Value} {vs : List V} {ds kds : List D} {Q : VK} {E : Value → Shared → Prop} (I : Inv X pins σ H s) (hl : s.heap.IsList l its.toArray) (sF : Same F H) (hD : DatL X.K F vs ds) (rv : Vals vs its)
    (keys : ∀ (i : Nat) (d : D), ds[i]? = some d -> ∃ kd outs, kds[i]? = some kd ∧ Γ f [.pure d] = .ret (.pure kd) outs) (hlen : kds.length = ds.length) (hal : AllAlike kds) (hsk : Sortable kds) (hpl : PyData.plainAll kds = true) (hu : ∀ kd, kd ∈ kds -> X.A.in1.in1.units + kd.depth < cLine) (hZ : its.length ≤ sizeLine)
    (q : ∀ (F' H' : Hp) (u : V), Grw F H F' H' -> ResN X.K H F' H' u (.own (.list (srtK ds kds))) -> Q u H') :
    wpAny (model X.prog X.w) X.A (call (.builtin "sorted") [.ref l] [(Str.ofString "key", .ref fa)]) (EP X pins σ Q) E s := by
  refine sorted_of_sort hl hZ (ksk_s1 _ _) (fun _ => ksk_l1 _ _) fun E' => ?_
  rw [ksk_t1]
  obtain ⟨a, ea⟩ : ∃ a, a = s.heap.objs.size + 1 := ⟨_, rfl⟩
  rw [← ea]
  have ho : (copyHeap s.heap its).get? a = some (seqObj "list" its.toArray 0) := by rw [ea]; exact copyHeap_at _ _
  obtain ⟨e1, ho1⟩ : ∃ e1, ((copyHeap s.heap its).update a (Obj.mapSeq fun _ => (#[] : Array Value))).get? a = some (seqObj "list" #[] e1) := ⟨_, get?_update_seq ho fun _ => #[]⟩
  have hal1 : a < (copyHeap s.heap its).objs.size := Heap.lt_size ho
  have hkS : (((copyHeap s.heap its).update a (Obj.mapSeq fun _ => (#[] : Array Value))).push (seqObj "tuple" its.toArray 0)).objs.size = (copyHeap s.heap its).objs.size + 1 := by rw [size_push', Heap.size_update]
  unfold ksk_tree
  refine wpAny_bind (listItems_at ho rfl ?_)
  refine wpAny_bind (listUpdate_at ho rfl ?_ (by rw [List.size_toArray]; exact hZ) (Nat.zero_le _))
  refine wpAny_bind (seqEpoch_at ho1 rfl ?_)
  refine wpAny_bind (wpAny_newTuple ?_ (by show its.length ≤ _; exact hZ))
  refine wpAny_bind (wpAny_newList ?_ (Nat.zero_le _))
  refine wpAny_holding ?_
  have I1 : Inv X pins σ H { s with heap := (((copyHeap s.heap its).update a (Obj.mapSeq fun _ => (#[] : Array Value))).push (seqObj "tuple" its.toArray 0)).push (seqObj "list" #[] 0) } := I.kept (t' := s.toks) fun b o e =>
    sortingHeap_old (Nat.ne_of_lt (by rw [ea]; exact Nat.lt_succ_of_lt (Heap.lt_size e))) (copyHeap_old e)
  have ha : s.heap.objs.size ≤ a := by omega
  have hk2 : s.heap.objs.size ≤ (((copyHeap s.heap its).update a (Obj.mapSeq fun _ => (#[] : Array Value))).push (seqObj "tuple" its.toArray 0)).objs.size := by rw [hkS]; omega
  have hne : (((copyHeap s.heap its).update a (Obj.mapSeq fun _ => (#[] : Array Value))).push (seqObj "tuple" its.toArray 0)).objs.size ≠ a := by
    rw [hkS]
    exact Nat.ne_of_gt (Nat.lt_succ_of_lt hal1)
  refine ksrt_rest FO hr hb (kds := kds) I1 (I.fpOk ha (I.hok.fresh ha)) (I.fpOk hk2 (I.hok.fresh hk2)) (Heap.get?_push_size _ rfl) (Heap.get?_push_of_some _ (Heap.get?_push_of_some _ ho1)) hne sF hD rv keys hlen hal hsk hpl hu hZ
    fun F' H' s' out c J ga g hout ko => ⟨rfl, ?_⟩
  have eb : (ds.zip kds).map (·.2) = kds := by rw [List.map_snd_zip]; omega
  have ez := keyedOut_each (bs := ds.zip kds) (fun p : D × D => p.2) (rev := false) (vs := its) (out := out) (by rw [eb]; exact ko) (each_zip (hD.mono g.f) rv hlen)
  obtain ⟨ws, rw', hw⟩ := each_back ez
  have hsz : ws.length ≤ sizeLine := by
    rw [rw'.length, ko.length (by rw [hlen, ← hD.length, rv.length])]; exact hZ
  have J2 := Inv.lay (o := .lst ws) J ga ⟨hsz, out, c, rw', hout⟩
  have hn : H a = none := I.hok.fresh ha
  refine ⟨.ref a, upd H' a (.lst ws), J2, rfl, q F' _ _ ⟨g.f, same_updR g.s (g.s.free ga.1), fun b o e => ?_, g.n⟩ ⟨a, rfl, ⟨ws, upd_same, hw⟩, g.s.free ga.1, hn⟩⟩
  rw [upd_ne (ne_of_none e hn)]
  exact g.h b o e
end
end DE

/-! DS2: sorted by a def, as an expression. -/
namespace DE
open PySem PySem.Spec PyProof.Rows L2
theorem keysD_get {Γ : Calls} {f : Str} : ∀ {ds ks : List D}, keysD Γ f ds = some ks -> ks.length = ds.length ∧ ∀ (i : Nat) (d : D), ds[i]? = some d -> ∃ kd outs, ks[i]? = some kd ∧ Γ f [.pure d] = .ret (.pure kd) outs
  | [], ks, h => by
    simp only [keysD] at h
    cases h
    exact ⟨rfl, fun i d z => by simp at z⟩
  | d :: r, ks, h => by
    simp only [keysD] at h
    split at h
    · rename_i k outs q
      cases e : keysD Γ f r with
      | none => rw [e] at h; cases h
      | some ks' =>
        rw [e] at h
        cases h
        obtain ⟨h1, h2⟩ := keysD_get e
        refine ⟨by rw [List.length_cons, List.length_cons, h1], fun i d' z => ?_⟩
        cases i with
        | zero => simp at z; subst z; exact ⟨k, outs, rfl, q⟩
        | succ i => simpa using h2 i d' (by simpa using z)
    · cases h
section
variable {X : Cx} {Γ : Calls} {gl : Str -> Option D} {W : WX} {a : Expr} {ca : CE} {pos : Pos}
def rSrt (K : PySem.W.Frag) (Γ : Calls) (f : Str) (fa : Addr) : List V -> List V -> Hp -> VK -> Prop := fun vs zs H Q => zs = [.ref fa] ∧ ∃ v d F y, vs = [v] ∧ Same F H ∧ RdV K F H v d ∧ srtD Γ f d = some y ∧ ∀ F' H' u, Grw F H F' H' -> ResN K H F' H' u y -> Q u H'
theorem cr_srt {f : Str} {k : Nat} {fa : Addr} {fd : FuncData} {ps : List Str} (hu : X.A.units + 70 < cLine) (FO : FnOk X.prog X.w X.K X.mg X.base (L2.CX X.prog X.w) k fa fd ps (spD X.K Γ f)) (hr : Room k X.A.in1.in1) (hb : Binds X.K fd ps []) :
    CallRK X (.builtin "sorted") [Str.ofString "key"] (rSrt X.K Γ f fa) := by
  intro pins s σ H vs zs us ws Q I r rz h
  obtain ⟨rfl, v, d, F, y, rfl, sF, hd, e, q⟩ := h
  cases d with
  | list ds =>
    simp only [srtD] at e
    cases ek : keysD Γ f ds with
    | none => rw [ek] at e; cases e
    | some ks =>
      rw [ek] at e
      simp only at e
      split at e
      · rename_i hk
        cases e
        obtain ⟨h1, h2, h3, h4⟩ := okKeys_of hk
        obtain ⟨hlen, keys⟩ := keysD_get ek
        obtain ⟨l, xs, rfl, hs, t⟩ := hd.list sF
        rw [Vals.ref1 r]
        obtain rfl := Vals.ref1 rz
        obtain ⟨its, rv, hl, hz⟩ := I.list hs
        exact ksrt FO hr hb I hl.isList sF t rv keys hlen h2 h3 h1 (fun kd hkd => by have := h4 kd hkd; show X.A.units + 1 + 1 + kd.depth < cLine; omega) (by rw [← rv.length]; exact hz) q
      · cases e
  | _ => cases e
theorem snd_srt {f : Str} {p p2 p3 : Pos} (hc : X.A.units + 70 < cLine) (C : CallOk Γ X f) (hg : Gl X "sorted") (hm : X.mg "sorted" = none) (hgf : Gl X f) (hdf : (f == ("__debug__" : Str)) = false) (hs : noStar a = true) (ha : PE X a (tE X.K Γ gl W ca)) :
    PE X (.Call (.Name "sorted" p) [a] [⟨some "key", .Name f p2, p3⟩] pos) (tE X.K Γ gl W (.srt ca f)) := by
  obtain ⟨k, fa, fd, ps, ⟨_, rm⟩, hmf, kp, hb, FO⟩ := C
  have hf : PE X (.Name f p2) (tC (.ref fa)) := pe_glob hgf hmf (show RelV (.ref fa) (.ref fa) from rfl) hdf
  refine PE.imp (pe_callBK (cr_srt hc FO rm hb) hg hm (by decide +kernel) (pa_cons ha pa_nil (noStar_each hs)) (pk_cons hf pk_nil) (by decide) (by decide) (by rw [noStar_each hs]; rfl) (by rw [noStar_each hs]; rfl)) fun σ H Q ⟨x, F, δ, R, pp⟩ => ?_
  unfold evalE at pp
  refine ⟨x, F, δ, R, pp.bind fun r1 δ1 F1 H1 v R1 s1 rv1 p1 => ?_⟩
  obtain ⟨dd, y, _, hd, e, q⟩ := rdTo_of R1 rv1 p1
  exact ⟨rfl, v, dd, F1, y, rfl, R1.sub, hd, e, fun F' H' w g n => q F' H' w (R1.grw g) g.f (R1.resN n)⟩
end
end DE

/-! DS3: list(reversed(xs)). -/
namespace PySem
open PySem PySem.Spec PyProof.Rows RT PySem.W Builtin
section
variable {prog : Program} {w : World} {A : Around} {E : Value → Shared → Prop} {s : Shared}
theorem extend_revL {R : Result → Shared → Prop} {it l : Addr} {items : Array Value} (hh : A.handled = none) (hit : s.heap.IsRevIter it l ((items.size : Int) - 1)) (hl : s.heap.IsList l items) (hne : l ≠ it) (hn : items.size ≤ sizeLine) (S : Addr) (hSi : S ≠ it) (hSl : S ≠ l) (back : Value) (c : Nat)
    (hS : s.heap.get? S = some { cls := .type "list", dict := none, data := .seq #[] c, slots := #[] })
    (hR : ∀ h' tk acc' c', (∀ b o, b ≠ S → b ≠ it → s.heap.get? b = some o → h'.get? b = some o) → h'.get? S = some { cls := .type "list", dict := none, data := .seq acc' c', slots := #[] } →
      ItemsOf (fun i v => items[items.size - 1 - i]? = some v) acc' items.size → R (.ok (.ret back)) { s with heap := h', toks := tk }) :
    wpAny (model prog w) A.in1 (Builtin.List.listExtendWith (.ref S) (.ref it) back)
      (fun fin s' => match fin with | .done f => R (.ok f) s' | .again c' => c'.quiet = true ∧ codeAny (model prog w) A c' R s') (fun e s' => R (.error e) s') s := by
  have W := (Walks.listRev (prog := prog) (w := w) (A := A.in1) hh it l hne items).toS
  have hSf : S ∉ [it, l] := by simp only [List.mem_cons, List.not_mem_nil, or_false, not_or]; exact ⟨hSi, hSl⟩
  have hT : s.TypeIs (.ref it) "list_reverseiterator" := hit.typeIs
  have h1 : Builtin.List.listSameRef (.ref S) (.ref it) = false := by simp [Builtin.List.listSameRef, hSi]
  unfold Builtin.List.listExtendWith
  refine wpAny_bind (wpAny_typeOf hT ?_)
  rw [if_neg (by rw [h1]; decide)]
  refine wpAny_bind (wpAny_pyIter_revIter hit ?_)
  refine wpAny_bind (wpAny_holding ?_)
  unfold Builtin.List.listLengthHint
  refine wpAny_bind (wpAny_specialOf hT nolen_lri ?_)
  show wpAny _ A.in1 (specialOf (Value.ref it) (Str.ofString "__length_hint__") >>= _) _ _ _
  refine wpAny_bind (wpAny_specialOf hT hint_lri ?_)
  generalize hid : ("list_reverseiterator.__length_hint__" : String) = id0
  wp_delta
  rw [show splitId id0 = some ("list_reverseiterator", "__length_hint__") from by subst hid; decide +kernel]
  subst hid
  refine wpAny_bind (wpAny_isInstance (b := true) hT (by rw [isSubtype_type]; kernel_rfl) ?_)
  refine wpAny_pure ?_
  rw [if_neg (by decide)]
  have e0 : ((items.size : Nat) : Int) - 1 - ((0 : Nat) : Int) = (items.size : Int) - 1 := by omega
  refine wpAny_pure ⟨plainId_quiet F.plain_extend_loop _, codeAny_extend_loopS W hn _ hSf _ items.size 0 _ _ _ rfl (Nat.zero_le _) ⟨Nat.zero_le _, by rw [e0]; exact hit, hl⟩ hS (ItemsOf.nil _) fun s' acc' c' hm hS' hacc => ?_⟩
  rw [Moved.eq_with hm]
  refine hR s'.heap s'.toks acc' c' (fun b o hb hb2 e => hm.heap b o (fun hmem => ?_) e) hS' hacc
  rcases List.mem_cons.mp hmem with e' | hmem
  · exact hb e'
  · exact hb2 (List.mem_singleton.mp hmem)
theorem list_init_revL {R : Result → Shared → Prop} {it l : Addr} {items : Array Value} (hh : A.handled = none) (hit : s.heap.IsRevIter it l ((items.size : Int) - 1)) (hl : s.heap.IsList l items) (hne : l ≠ it) (hn : items.size ≤ sizeLine) (S : Addr) (hSi : S ≠ it) (hSl : S ≠ l)
    (hS : s.heap.get? S = some { cls := .type "list", data := .seq #[] })
    (hR : ∀ h' tk acc' c', (∀ b o, b ≠ S → b ≠ it → s.heap.get? b = some o → h'.get? b = some o) → h'.get? S = some { cls := .type "list", dict := none, data := .seq acc' c', slots := #[] } →
      ItemsOf (fun i v => items[items.size - 1 - i]? = some v) acc' items.size → R (.ok (.ret .none)) { s with heap := h', toks := tk }) :
    wpAny (model prog w) A.in1 (Builtin.«list.__init__» ⟨[.ref S, .ref it], []⟩)
      (fun fin s' => match fin with | .done f => R (.ok f) s' | .again c' => c'.quiet = true ∧ codeAny (model prog w) A c' R s') (fun e s' => R (.error e) s') s := by
  show wpAny _ _ (do let old ← Builtin.List.listItems (.ref S); Builtin.List.listUpdate (.ref S) (fun _ => #[]); letGo old.toList.reverse; Builtin.List.listExtendWith (.ref S) (.ref it) .none) _ _ s
  refine wpAny_bind ?_
  unfold Builtin.List.listItems
  refine wpAny_bind (wpAny_seqItems hS rfl (wpAny_pure ?_))
  show wpAny _ _ (updateSeq S (fun _ => #[]) >>= fun _ => letGo (#[] : Array Value).toList.reverse >>= fun _ => Builtin.List.listExtendWith (.ref S) (.ref it) .none) _ _ s
  refine wpAny_bind (wpAny_updateSeq hS rfl ?_)
  have hS2 := Heap.get?_update_self (Obj.mapSeq (fun _ => (#[] : Array Value))) hS rfl
  have oth : ∀ b o, b ≠ S → s.heap.get? b = some o → (s.heap.update S (Obj.mapSeq (fun _ => (#[] : Array Value)))).get? b = some o :=
    fun b o hb e => (Heap.get?_update_other _ _ (Ne.symm hb)).trans e
  refine wpAny_bind (wpAny_letGo ?_)
  refine extend_revL hh (hit.at fun o e => oth _ o (Ne.symm hSi) e) (by
    obtain ⟨o, ho, r⟩ := hl
    exact ⟨o, oth _ o (Ne.symm hSl) ho, r⟩) hne hn S hSi hSl .none _ hS2 fun h' tk acc' c' hk hS' hacc => ?_
  exact hR h' tk acc' c' (fun b o hb hb2 e => hk b o hb hb2 (oth b o hb e)) hS' hacc
theorem call_list_revL {it l : Addr} {items : Array Value} {Q : Value → Shared → Prop} (hh : A.handled = none) (hit : s.heap.IsRevIter it l ((items.size : Int) - 1)) (hl : s.heap.IsList l items) (hne : l ≠ it) (hn : items.size ≤ sizeLine)
    (hQ : ∀ h' tk acc' c', (∀ b o, b ≠ it → s.heap.get? b = some o → h'.get? b = some o) →
      h'.get? s.heap.objs.size = some { cls := .type "list", dict := none, data := .seq acc' c', slots := #[] } → ItemsOf (fun i v => items[items.size - 1 - i]? = some v) acc' items.size → Q (.ref s.heap.objs.size) { s with heap := h', toks := tk }) :
    wpAny (model prog w) A (call (.type "list") [.ref it]) Q E s := by
  refine callType_codes (Q₁ := fun obj s₁ => obj = .ref s.heap.objs.size ∧ s₁ = { s with heap := s.heap.push { cls := .type "list", data := .seq #[] } }) F.called_list (F.typeCall_list_1 _) F.entry_list_init
    (code_list_new _ ⟨rfl, rfl⟩) fun obj s₁ h₁ => ?_
  obtain ⟨rfl, rfl⟩ := h₁
  have hS : (s.heap.push { cls := .type "list", data := .seq #[] }).get? s.heap.objs.size = some { cls := .type "list", data := .seq #[] } := Heap.get?_push_size _ rfl
  obtain ⟨oi, hoi, _⟩ := id hit
  obtain ⟨ol, hol, _⟩ := id hl
  refine ⟨⟨_, hS, rfl⟩, F.args_list_init_2 _ _, list_init_revL (A := A.in1) hh (hit.at fun o e => Heap.get?_push_of_some _ e) (hl.push _) hne hn _ (Nat.ne_of_gt (Heap.lt_size hoi)) (Nat.ne_of_gt (Heap.lt_size hol)) hS fun h' tk acc' c' hk hS' hacc => ?_⟩
  exact ⟨rfl, hQ h' tk acc' c' (fun b o hb e => hk b o (Nat.ne_of_lt (Heap.lt_size e)) hb (Heap.get?_push_of_some _ e)) hS' hacc⟩
end
end PySem
namespace DE
open PySem PySem.Spec PyProof.Rows L2
section
variable {X : Cx} {Γ : Calls} {gl : Str -> Option D} {W : WX} {a : Expr} {ca : CE} {pos pos2 p p2 : Pos}
def tLRev (K : PySem.W.Frag) (te : TE) : TE := fun σ H Q => te σ H fun v H1 => ∃ (a : Addr) (xs : List V), v = .ref a ∧ SqL K H1 a xs ∧ ∀ q, H1 q = none -> Q (.ref q) (upd H1 q (.lst xs.reverse))
theorem pe_lrev {te : TE} (hc : X.calm = true) (hg : Gl X "list") (hm : X.mg "list" = none) (hg2 : Gl X "reversed") (hm2 : X.mg "reversed" = none) (hs0 : noStar a = true) (he : PE X a te) :
    PE X (.Call (.Name "list" p) [.Call (.Name "reversed" p2) [a] [] pos2] [] pos) (tLRev X.K te) := by
  have hs : starEach [a] X.env = (false, eval a X.env) :: starEach [] X.env := noStar_each hs0
  have hs2 : starEach [.Call (.Name "reversed" p2) [a] [] pos2] X.env = (false, eval (.Call (.Name "reversed" p2) [a] [] pos2) X.env) :: starEach [] X.env := noStar_each rfl
  refine ⟨fun pins s σ H Q I h => ?_⟩
  refine Call_ (ld_blt I hg hm boot_list (PyProof.Rows.callWith_type1 (args_cons (Call_ (ld_blt I hg2 hm2 PyProof.Rows.boot_reversed (PyProof.Rows.callWith_type1 (args_cons (thn (he.run pins s σ H _ I h) fun u s1 ⟨v, H1, I1, r1, q1⟩ => args_nil ?_) hs) hs rfl))) hs2) hs2 rfl))
  obtain ⟨l, xs, ev, hq, q⟩ := q1
  subst ev
  obtain rfl : u = Value.ref l := r1
  obtain ⟨its, rv, p', hz⟩ := I1.list hq
  refine call_reversed_list p'.isList (args_nil ?_)
  have k0 : ∀ b o, s1.heap.get? b = some o → (s1.heap.push (revObj l ((its.toArray.size : Int) - 1))).get? b = some o := fun b o e => Heap.get?_push_of_some _ e
  have I2 : Inv X pins σ H1 { s1 with heap := s1.heap.push (revObj l ((its.toArray.size : Int) - 1)) } := I1.kept (t' := s1.toks) k0
  obtain ⟨f0, f1, f2, f3, f4, f5⟩ := I1.fpOk (H' := H1) (b := s1.heap.objs.size) (Nat.le_refl _) (I1.hok.fresh (Nat.le_refl _))
  have hl := p'.isList
  obtain ⟨ol, hol, _⟩ := id hl
  have hne : l ≠ s1.heap.objs.size := Nat.ne_of_lt (Heap.lt_size hol)
  have hn : its.toArray.size ≤ sizeLine := by rw [List.size_toArray, ← rv.length]; exact hz
  refine call_list_revL (s := { s1 with heap := s1.heap.push (revObj l ((its.toArray.size : Int) - 1)) }) (I1.ok.hd hc) ⟨_, Heap.get?_push_size _ rfl, rfl, rfl⟩ (hl.push _) hne hn fun h' tk acc c' hk hS hi => ?_
  have I3 : Inv X pins σ H1 { s1 with heap := h', toks := tk } := I2.turned (t' := tk) (fun b o hb e => hk b o hb e) f0 f1 f3 f4 f5
  have hge : s1.heap.objs.size ≤ (s1.heap.push (revObj l ((its.toArray.size : Int) - 1))).objs.size := by rw [PyProof.Rows.size_push']; exact Nat.le_succ _
  have fr := I1.fpOk (H' := H1) hge (I1.hok.fresh hge)
  have hlen : xs.reverse.length ≤ sizeLine := by rw [List.length_reverse]; exact hz
  exact ⟨.ref _, upd H1 _ (.lst xs.reverse), Inv.lay I3 fr ⟨hlen, acc.toList, c', RT.vals_rev rv hi, by rw [Array.toArray_toList]; exact hS⟩, rfl, q _ (I1.hok.fresh hge)⟩
theorem snd_lrv (hc : X.calm = true) (hg : Gl X "list") (hm : X.mg "list" = none) (hg2 : Gl X "reversed") (hm2 : X.mg "reversed" = none) (hs : noStar a = true) (ha : PE X a (tE X.K Γ gl W ca)) :
    PE X (.Call (.Name "list" p) [.Call (.Name "reversed" p2) [a] [] pos2] [] pos) (tE X.K Γ gl W (.lrv ca)) := by
  refine PE.imp (pe_lrev hc hg hm hg2 hm2 hs ha) fun σ H Q ⟨x, F, δ, R, pp⟩ => ?_
  unfold evalE at pp
  refine ⟨x, F, δ, R, pp.bind fun r1 δ1 F1 H1 v R1 s1 rv1 p1 => ?_⟩
  obtain ⟨dd, y, _, hd, e, q⟩ := rdTo_of R1 rv1 p1
  cases dd with
  | list ds =>
    cases e
    obtain ⟨l, xs, rfl, hs, t⟩ := hd.list R1.sub
    refine ⟨l, xs, rfl, hs, fun z nz => ?_⟩
    exact q F1 _ _ (R1.beside _ nz) (Same.refl _) (R1.resN (u := .ref z) (r := .own (.list ds.reverse)) ⟨z, rfl, ⟨xs.reverse, upd_same, t.reverse⟩, R1.nF nz, nz⟩)
  | _ => cases e
end
end DE

/-! DS4: sorted(d.items()), sorted(d.keys()), displays of dicts. -/
namespace DE
open PySem PySem.Spec PyProof.Rows L2
/-- two sorted orders of one list are one -/
theorem perm_one {α : Type} {r : α -> α -> Prop} (anti : ∀ a b, r a b -> r b a -> a = b) : ∀ {l m : List α}, l.Pairwise r -> m.Pairwise r -> l.Perm m -> l = m
  | [], m, _, _, p => by rw [List.Perm.nil_eq p]
  | a :: l, [], _, _, p => by have := p.length_eq; simp at this
  | a :: l, b :: m, h1, h2, p => by
    have e : a = b := by
      rw [List.pairwise_cons] at h1 h2
      rcases List.mem_cons.mp (p.mem_iff.mp (List.mem_cons_self ..)) with z | z
      · exact z
      · rcases List.mem_cons.mp (p.mem_iff.mpr (List.mem_cons_self ..)) with y | y
        · exact y.symm
        · exact anti _ _ (h1.1 _ y) (h2.1 _ z)
    subst e
    rw [List.pairwise_cons] at h1 h2
    rw [perm_one anti h1.2 h2.2 (List.Perm.cons_inv p)]
theorem srtS_perm (ks : List Str) : (srtS ks).Perm ks := List.mergeSort_perm _ _
theorem srtS_sorted (ks : List Str) : (srtS ks).Pairwise fun a b => a.cps.toList ≤ b.cps.toList := by
  have z := List.pairwise_mergeSort (le := fun a b : Str => decide (a.cps.toList ≤ b.cps.toList)) (fun a b c h1 h2 => by
    simp only [decide_eq_true_eq] at *
    exact List.le_trans h1 h2) (fun a b => by
    simp only [Bool.or_eq_true, decide_eq_true_eq]
    exact List.le_total _ _) ks
  exact z.imp fun h => by simpa using h
theorem str_anti (a b : Str) (h1 : a.cps.toList ≤ b.cps.toList) (h2 : b.cps.toList ≤ a.cps.toList) : a = b := PySem.W.str_of_cps (List.le_antisymm h1 h2)
/-- a pair whose first is the text x -/
def SPair (h : Heap) (v : Value) (x : Str) : Prop := ∃ a t y, v = .ref a ∧ h.get? a = some { cls := .type "tuple", data := .seq #[.str x t, y] }
section
variable {prog : Program} {w : World} {A : Around} {s : Shared}
theorem spair_cmp {vs : List Value} {kx : Value -> Str} (hp : ∀ v ∈ vs, SPair s.heap v (kx v)) (inj : ∀ v ∈ vs, ∀ u ∈ vs, kx v = kx u -> v = u) :
    SrtO.Cmp prog w A s (tuples' true) (fun p => p.1 ∈ vs) (SrtO.lt2 fun v u => decide ((kx v).cps.toList < (kx u).cps.toList)) := by
  intro p q hm hm'
  have h1 := hp _ hm
  have h2 := hp _ hm'
  have h3 := inj _ hm _ hm'
  show wpAny (model prog w) A (keyLt' (tuples' true) p.1 q.1) (fun r s' => s' = s ∧ r = decide ((kx p.1).cps.toList < (kx q.1).cps.toList)) (fun _ _ => False) s
  generalize kx p.1 = x at *
  generalize kx q.1 = x' at *
  obtain ⟨a, t, y, e, ho⟩ := h1
  obtain ⟨a', t', y', e', ho'⟩ := h2
  rw [e, e'] at h3 ⊢
  refine PySem.W.kat_lt ho rfl ho' rfl ?_
  show PySem.W.KatLex prog w A true (decide (2 < 2)) _ [(.str x t, .str x' t'), (y, y')] 0 s
  refine PySem.W.kat_cons (SeqAt.EqAt.str_str x t x' t' prog w _ _ ?_)
  refine PySem.W.kat_go (fun e1 => ?_) (fun e1 => ?_)
  · have ex : x = x' := by simpa using e1
    have ea := h3 ex
    injection ea with ea
    subst ea ex
    rw [ho] at ho'
    have ey : y = y' := by
      injection ho' with z
      injection z with _ _ z _
      injection z with z _
      have z2 := congrArg Array.toList z
      simp at z2
      exact z2.2
    subst ey
    refine PySem.W.kat_yes (PySem.W.kat_cons (SeqAt.EqAt.same y prog w _ _ ?_))
    refine PySem.W.kat_go (fun _ => ?_) (fun z => by cases z)
    refine PySem.W.kat_yes (PySem.W.kat_nil ⟨rfl, ?_⟩)
    exact (decide_eq_false (List.lt_irrefl _)).symm
  · exact PySem.W.kat_no (PyProof.Rows.oneLt_str ⟨rfl, rfl⟩)
theorem sfirsts {h : Heap} : ∀ {vs : List Value}, (∀ v ∈ vs, ∃ x, SPair h v x) -> ∃ fs : List Value, PySem.W.KatTups h vs fs ∧ fs.length = vs.length ∧ ∀ f ∈ fs, ∃ x t, f = Value.str x t
  | [], _ => ⟨[], PySem.W.KatTups.nil, rfl, fun _ hm => by simp at hm⟩
  | v :: vs, hp => by
    obtain ⟨fs, h1, h2, h3⟩ := sfirsts (vs := vs) fun v' hm => hp v' (List.mem_cons_of_mem _ hm)
    obtain ⟨x, a, t, y, e, ho⟩ := hp v (List.mem_cons_self ..)
    subst e
    refine ⟨.str x t :: fs, PySem.W.KatTups.cons ho rfl rfl rfl h1, (by rw [List.length_cons, List.length_cons, h2]), fun f hm => ?_⟩
    rcases List.mem_cons.mp hm with rfl | hm
    · exact ⟨x, t, rfl⟩
    · exact h3 f hm
theorem spair_ord {a : Addr} {vs : List Value} {kx : Value -> Str} (h0 : 0 < vs.length) (hp : ∀ v ∈ vs, SPair s.heap v (kx v)) (inj : ∀ v ∈ vs, ∀ u ∈ vs, kx v = kx u -> v = u) (ha : ∀ o, s.heap.get? a = some o -> o.cls ≠ .type "tuple") :
    SrtO.SortableO prog w A s a vs fun v u => decide ((kx v).cps.toList < (kx u).cps.toList) := by
  intro h' keep
  have hp' : ∀ v ∈ vs, SPair h' v (kx v) := fun v hm => by
    obtain ⟨b, t, y, e, ho⟩ := hp v hm
    exact ⟨b, t, y, e, keep b _ (fun z => by subst z; exact ha _ ho rfl) ho⟩
  obtain ⟨fs, h1, h2, h3⟩ := sfirsts fun v hm => ⟨_, hp' v hm⟩
  refine ⟨tuples' true, fun Q E hq => ?_, spair_cmp hp' inj⟩
  refine PySem.W.kat_kind (T := .type "str") h1 (by omega) (fun f hm => ?_) (by rfl) ?_
  · obtain ⟨x, t, rfl⟩ := h3 f hm
    exact PySem.W.Looks.now
  · have e : (Value.type "str" != Value.type "tuple") = true := by first | decide +kernel | rfl | decide
    rw [e]
    exact hq
theorem swo_str (kx : Value -> Str) : SrtO.Swo fun v u => decide ((kx v).cps.toList < (kx u).cps.toList) := by
  refine ⟨fun x y h => ?_, fun x y z h1 h2 => ?_⟩
  · have h : (kx x).cps.toList < (kx y).cps.toList := by simpa using h
    exact decide_eq_false (fun q => List.lt_irrefl _ (List.lt_trans h q))
  · have h1 := List.not_lt.mp (of_decide_eq_false h1)
    have h2 := List.not_lt.mp (of_decide_eq_false h2)
    exact decide_eq_false (List.not_lt.mpr (List.le_trans h1 h2))
end

section
variable {X : Cx} {pins : List (Addr × Obj)} {σ : L2.St}
/-- tuples that stand are tracked, within the still part -/
theorem takeF {H0 : Hp} {s : Shared} {P : Addr -> Obj -> List V -> Prop} {h' : Heap} {tk : Nat} (I0 : Inv X pins σ H0 s) : ∀ (L : List Addr) (F1 H1 : Hp), Inv X pins σ H1 { s with heap := h', toks := tk } -> Same F1 H1 -> L.Nodup ->
    (∀ a ∈ L, s.heap.objs.size ≤ a ∧ H1 a = none ∧ ∃ o vs, P a o vs ∧ ∀ H2, ObjOk X.prog X.w H2 h' a (.frz o (.tup vs))) ->
    ∃ F2 H2, Inv X pins σ H2 { s with heap := h', toks := tk } ∧ Grw F1 H1 F2 H2 ∧ (∀ b, b ∉ L -> H2 b = H1 b) ∧ ∀ a ∈ L, ∃ o vs, P a o vs ∧ F2 a = some (.frz o (.tup vs))
  | [], F1, H1, I1, sF, _, _ => ⟨F1, H1, I1, Grw.refl sF, fun _ _ => rfl, fun _ h => nomatch h⟩
  | a :: L, F1, H1, I1, sF, hn, h => by
    obtain ⟨hb, hnone, o, vs, hP, ok⟩ := h a (List.mem_cons_self ..)
    have I2 : Inv X pins σ (upd H1 a (.frz o (.tup vs))) { s with heap := h', toks := tk } := Inv.lay I1 (I0.fpOk hb hnone) (ok _)
    rw [List.nodup_cons] at hn
    have g1 : Grw F1 H1 (upd F1 a (.frz o (.tup vs))) (upd H1 a (.frz o (.tup vs))) := Grw.still sF hnone
    obtain ⟨F2, H2, I3, g, oth, q⟩ := takeF I0 L (upd F1 a (.frz o (.tup vs))) (upd H1 a (.frz o (.tup vs))) I2 g1.s hn.2 fun c hc => by
      obtain ⟨c1, c2, c3⟩ := h c (List.mem_cons_of_mem _ hc)
      exact ⟨c1, (by rw [upd_ne (fun z => hn.1 (by rw [← z]; exact hc))]; exact c2), c3⟩
    refine ⟨F2, H2, I3, g1.trans g, fun b hb2 => ?_, fun c hc => ?_⟩
    · rw [List.mem_cons, not_or] at hb2
      rw [oth b hb2.2, upd_ne hb2.1]
    · rcases List.mem_cons.mp hc with rfl | hc
      · exact ⟨o, vs, hP, g.f _ _ upd_same⟩
      · exact q c hc
def kxOf (h : Heap) (v : Value) : Str := match v with
  | .ref a => match h.get? a with
    | some o => match o.data with
      | .seq items _ => match items[0]? with
        | some (Value.str x _) => x
        | _ => ⟨#[]⟩
      | _ => ⟨#[]⟩
    | none => ⟨#[]⟩
  | _ => ⟨#[]⟩
theorem kxOf_at {h : Heap} {a : Addr} {x : Str} {t : Tok} {y : Value} (e : h.get? a = some { cls := .type "tuple", data := .seq #[.str x t, y] }) : kxOf h (.ref a) = x := by
  unfold kxOf
  simp only [e]
  rfl
variable {e : Expr} {te : TE} {p apos cpos pos : Pos}
def sitL (ds : List (D × D)) (xs : List Str) : List D := (srtS xs).map fun x => .tuple [.str x, (getKV ds (.inr x)).getD .none]
def tSit (K : PySem.W.Frag) (te : TE) (mk : List (D × D) -> List Str -> List D) : TE := fun σ H Q => te σ H fun v H1 => ∃ F a ks ds xs, v = .ref a ∧ Same F H1 ∧ H1 a = some (.dK ks) ∧ DatK K F ks ds ∧ strKs ds = some xs ∧
  ∀ F' H' u, Grw F H1 F' H' -> ResN K H1 F' H' u (.own (.list (mk ds xs))) -> Q u H'
theorem paired_at {α β : Type} {P : α -> β -> Prop} : ∀ {xs : List α} {ys : List β}, Paired P xs ys -> ∀ {j : Nat} {y : β}, ys[j]? = some y -> ∃ x, xs[j]? = some x ∧ P x y
  | _, _, .nil, j, y, h => by simp at h
  | _, _, .cons r _, 0, y, h => by simp at h; subst h; exact ⟨_, rfl, r⟩
  | _, _, .cons _ t, j + 1, y, h => by simpa using paired_at t (j := j) (by simpa using h)
theorem DatK.at {K : PySem.W.Frag} {F : Hp} : ∀ {ks : List (Key × V)} {ds : List (D × D)}, DatK K F ks ds -> (ks.map (·.1)).Nodup -> ∀ {j : Nat} {k : Key} {v : V}, ks[j]? = some (k, v) -> ∃ d, getKV ds k = some d ∧ Dat K F v d
  | _, _, .nil, _, j, k, v, h => by simp at h
  | _, _, .cons (k := i) (v := w) (d := d) hd t, nd, 0, k, v, h => by
    simp at h
    obtain ⟨rfl, rfl⟩ := h
    exact ⟨d, getKV_pos, hd⟩
  | _, _, .cons (k := i) (v := w) (d := d) hd t, nd, j + 1, k, v, h => by
    rw [List.map_cons, List.nodup_cons] at nd
    rw [List.getElem?_cons_succ] at h
    obtain ⟨d2, h1, h2⟩ := DatK.at t nd.2 (j := j) (k := k) (v := v) h
    refine ⟨d2, ?_, h2⟩
    rw [getKV_neg]
    · exact h1
    · rintro rfl
      exact nd.1 (List.mem_map.mpr ⟨_, List.mem_of_getElem? h, rfl⟩)
theorem datL_refs {K : PySem.W.Frag} {F : Hp} {f : Addr -> D} : ∀ (os : List Addr), (∀ a ∈ os, Dat K F (V.ref a) (f a)) -> DatL K F (os.map V.ref) (os.map f)
  | [], _ => .nil
  | a :: r, h => .cons (h a (List.mem_cons_self ..)) (datL_refs r fun b hb => h b (List.mem_cons_of_mem _ hb))
theorem pe_sit (hc : X.calm = true) (hg : Gl X "sorted") (hm : X.mg "sorted" = none) (he : PE X e te) (hbase : attributeBase e "items" X.env (eval e X.env) = eval e X.env) (hline : (apos.endLine == cpos.line) = true) :
    PE X (.Call (.Name "sorted" p) [.Call (.Attribute e "items" apos) [] [] cpos] [] pos) (tSit X.K te sitL) := by
  have hs : starEach [.Call (.Attribute e "items" apos) [] [] cpos] X.env = (false, eval (.Call (.Attribute e "items" apos) [] [] cpos) X.env) :: starEach [] X.env := noStar_each rfl
  refine ⟨fun pins s σ H Q I hq => ?_⟩
  refine Call_ (ld_blt I hg hm PyProof.Rows.boot_sorted (PyProof.Rows.callWith_builtin1 (PyProof.Rows.args_cons ?_ hs) hs rfl))
  refine wpAny_Call_method (T := "dict") (id := "dict.items") hbase rfl hline PySem.F.plainAttrs_dict PySem.F.slot_dict_items PySem.F.type_dict_items (thn (he.run pins s σ H _ I hq) fun u s1 ⟨x, H1, I1, rx, F, d, ks, ds, xs, ex, sF, hd, hD, hS, q⟩ => ?_)
  subst ex
  obtain rfl : u = Value.ref d := rx
  obtain ⟨hz, hs0, vs, kv, hdo⟩ := I1.hok d _ hd
  obtain ⟨ep, hat⟩ := hdo.dictAt
  have lk : ks.length = vs.length := Paired.length kv
  have nd0 : (ks.map (·.1)).Nodup := by
    obtain ⟨_, _, _, _, _, _, _, _, nd⟩ := hdo
    rw [kv.keys]; exact nd
  have ek := strKs_eq hD hS
  have I2 : Inv X pins σ H1 { s1 with heap := s1.heap.push { cls := .type "dict_items", data := .fields #[.ref d] } } := I1.kept (t' := s1.toks) fun b ob q => Heap.get?_push_of_some _ q
  refine ⟨hdo.typeIs, hdo.mapOf.noDict, ?_⟩
  show wpAny _ _ (callWith cpos (.builtin "dict.items") [.ref d] [] []) _ X.xe s1
  refine method_meetsIn PySem.F.slot_dict_items PySem.F.entry_dict_items rfl (PySem.evalArgs_none ⟨rfl, hdo.typeIs, PySem.F.args_dict_items_1 _, _, meets_dict_items (mixKind X.prog X.w) d hs0, ⟨vs, hdo⟩, ?_⟩)
  refine PyProof.Rows.args_nil ?_
  have hview : (s1.heap.push { cls := .type "dict_items", data := .fields #[.ref d] }).IsItemsView s1.heap.objs.size d := ⟨_, Heap.get?_push_size _ rfl, rfl, rfl⟩
  generalize hs2 : s1.heap.push { cls := .type "dict_items", data := .fields #[.ref d] } = hp2 at I2 hview ⊢
  have hat2 : hp2.DictAt (mixKind X.prog X.w) d vs ep := by rw [← hs2]; exact hat.push _
  have sz2 : hp2.objs.size = s1.heap.objs.size + 1 := by rw [← hs2, PyProof.Rows.size_push']
  have hh : X.A.handled = none := I1.ok.hd hc
  refine Calls.call_function_entry PyProof.Rows.kind_sorted PyProof.Rows.plain_sorted PyProof.Rows.entry_sorted (PyProof.Rows.args_sorted1 _) ?_
  unfold Builtin.«sorted»
  refine wpAny_bind (m := checkCount "sorted" 1 1 _) (wpAny_pure ?_)
  refine wpAny_bind (PySem.W.kdx_collect (s := { s1 with heap := hp2 }) (knd := mixKind X.prog X.w) (A := X.A.in1) (kvs := vs) (ep := ep) hh hview hat2 (by omega) fun h' tk as hk hl hG => ?_)
  refine wpAny_bind (wpAny_newList ?_ (by rw [List.length_map, hl]; omega))
  have hk : ∀ b o, hp2.get? b = some o -> h'.get? b = some o := hk
  have hG : PySem.W.KdxG (mixKind X.prog X.w) vs hp2.objs.size h' as := hG
  have sz3 : hp2.objs.size ≤ h'.objs.size := by
    obtain ⟨ov, hov, _⟩ := hview
    have z : s1.heap.objs.size < h'.objs.size := Heap.lt_size (hk _ _ hov)
    omega
  have nd : as.Nodup := List.Pairwise.imp (fun h => Nat.ne_of_lt h) hG.rise
  -- the pairs
  have pr : ∀ (j : Nat) (b : Addr), as[j]? = some b -> ∃ (x : Str) (v : V) (t : Tok) (y : Value), ks[j]? = some (.inr x, v) ∧ RelV v y ∧ h'.get? b = some { cls := .type "tuple", data := .seq #[.str x t, y] } := by
    intro j b hj
    obtain ⟨key, k, y, f1, f2, f3⟩ := hG.pairs j b hj
    obtain ⟨⟨k2, v⟩, g1, g2, g3⟩ := paired_at kv f1
    have e1 : (ks.map (·.1))[j]? = some k2 := by rw [List.getElem?_map, g1]; rfl
    rw [ek, List.getElem?_map] at e1
    cases ex : xs[j]? with
    | none => rw [ex] at e1; cases e1
    | some x =>
      rw [ex] at e1
      have e1 : Sum.inr x = k2 := Option.some.inj e1
      have g2 : k2 = k := g2
      subst e1
      subst g2
      obtain ⟨t, rfl⟩ : ∃ t, key = Value.str x t := (show RelV (kV (.inr x)) key from relV_key (show keyIs (.inr x) key = true from f2))
      exact ⟨x, v, t, y, g1, g3, f3⟩
  have at_ : ∀ v ∈ as.map Value.ref, ∃ (j : Nat) (b : Addr), v = .ref b ∧ as[j]? = some b := by
    intro v hv'
    obtain ⟨b, hb, rfl⟩ := List.mem_map.mp hv'
    obtain ⟨j, hj⟩ := List.mem_iff_getElem?.mp hb
    exact ⟨j, b, rfl, hj⟩
  have kx : ∀ (j : Nat) (b : Addr), as[j]? = some b -> xs[j]? = some (kxOf h' (.ref b)) := by
    intro j b hj
    obtain ⟨x, v, t, y, h1, _, h3⟩ := pr j b hj
    rw [kxOf_at h3]
    have e1 : (ks.map (·.1))[j]? = some (.inr x) := by rw [List.getElem?_map, h1]; rfl
    rw [ek, List.getElem?_map] at e1
    cases ex : xs[j]? with
    | none => rw [ex] at e1; cases e1
    | some x' => rw [ex] at e1; cases e1; rfl
  have lx : xs.length = as.length := by
    have z := congrArg List.length ek
    rw [List.length_map, List.length_map] at z
    omega
  have mapx : (as.map Value.ref).map (kxOf h') = xs := by
    apply List.ext_getElem?
    intro j
    rw [List.getElem?_map, List.getElem?_map]
    cases ea : as[j]? with
    | none =>
      have z := List.getElem?_eq_none_iff.mp ea
      rw [List.getElem?_eq_none (by omega)]; rfl
    | some b => rw [kx j b ea]; rfl
  have ndx : xs.Nodup := by
    have z := nd0
    rw [ek] at z
    exact (List.pairwise_map.mp z).imp fun h e => h (congrArg _ e)
  have inj : ∀ v ∈ as.map Value.ref, ∀ u ∈ as.map Value.ref, kxOf h' v = kxOf h' u -> v = u := by
    intro v hv u hu e
    obtain ⟨i, b, rfl, hi⟩ := at_ v hv
    obtain ⟨j, c, rfl, hj⟩ := at_ u hu
    have e1 := kx i b hi
    have e2 := kx j c hj
    rw [e] at e1
    have eij : i = j := (List.getElem?_inj (List.getElem?_eq_some_iff.mp e1).1 ndx).mp (e1.trans e2.symm)
    subst eij
    rw [hi] at hj; cases hj; rfl
  have spr : ∀ v ∈ as.map Value.ref, SPair h' v (kxOf h' v) := by
    intro v hv
    obtain ⟨j, b, rfl, hj⟩ := at_ v hv
    obtain ⟨x, _, t, y, _, _, h3⟩ := pr j b hj
    rw [kxOf_at h3]
    exact ⟨b, t, y, rfl, h3⟩
  -- the list
  have hob : (h'.push { cls := .type "list", data := .seq (as.map Value.ref).toArray }).get? h'.objs.size = some (seqObj "list" (as.map Value.ref).toArray 0) := Heap.get?_push_size _ rfl
  have ne0 : ∀ b o, h'.get? b = some o -> b ≠ h'.objs.size := fun b o e => Nat.ne_of_lt (Heap.lt_size e)
  generalize hh3 : h'.push { cls := .type "list", data := .seq (as.map Value.ref).toArray } = h3 at hob ⊢
  have ka : ∀ b o, h'.get? b = some o -> h3.get? b = some o := fun b o e => by rw [← hh3]; exact Heap.get?_push_of_some _ e
  refine wpAny_bind (wpAny_holding (wpAny_call_entry PyProof.Rows.slot_list_sort ⟨_, hob, rfl⟩ PyProof.Rows.entry_list_sort
    (SrtO.list_sort_ord (s := { s1 with heap := h3, toks := tk }) (ltv := fun v u => decide ((kxOf h' v).cps.toList < (kxOf h' u).cps.toList)) (swo_str _) hob (by rw [List.length_map, hl]; omega) (fun h2 => spair_ord (s := { s1 with heap := h3, toks := tk }) (by omega) (fun v hv => ?_) inj (fun o z => ?_)) fun out o1 o2 => ⟨_, rfl, ?_⟩) (PyProof.Rows.args_list_sort _)))
  · obtain ⟨b, t, y, e1, e2⟩ := spr v hv
    exact ⟨b, t, y, e1, ka _ _ e2⟩
  · have z : h3.get? h'.objs.size = some o := z
    rw [hob] at z; cases z
    intro w
    exact absurd (Value.type.inj w) (by decide)
  · refine wpAny_pure ⟨_, rfl, ?_⟩
    show EP X pins σ Q (.ref h'.objs.size) { s1 with heap := sortedHeap h3 h'.objs.size (as.map Value.ref) out.toArray, toks := tk }
    have kF : ∀ b o, b ≠ h'.objs.size -> h3.get? b = some o -> (sortedHeap h3 h'.objs.size (as.map Value.ref) out.toArray).get? b = some o := fun b o hb e => (PyProof.Rows.sortedHeap_old hb (Heap.lt_size e)).trans e
    have kS : ∀ b o, hp2.get? b = some o -> (sortedHeap h3 h'.objs.size (as.map Value.ref) out.toArray).get? b = some o := fun b o e => kF b o (ne0 _ _ (hk b o e)) (ka _ _ (hk b o e))
    obtain ⟨eF, heF⟩ := PyProof.Rows.sortedHeap_at (vs := as.map Value.ref) (out := out.toArray) hob
    have IF : Inv X pins σ H1 { s1 with heap := sortedHeap h3 h'.objs.size (as.map Value.ref) out.toArray, toks := tk } := I2.kept (t' := tk) kS
    obtain ⟨F2, H2, I3, g, oth, qt⟩ := takeF (P := fun b o us => ∃ (j : Nat) (x : Str) (v : V), as[j]? = some b ∧ ks[j]? = some (.inr x, v) ∧ us = [.str x, v] ∧ o.dict = none ∧ kxOf h' (.ref b) = x) I1 as F H1 IF sF nd fun b hb => by
      obtain ⟨j, hj⟩ := List.mem_iff_getElem?.mp hb
      obtain ⟨x, v, t, y, f1, f2, f3⟩ := pr j b hj
      have hbl : s1.heap.objs.size ≤ b := by have z : hp2.objs.size < b := hG.above b hb; omega
      refine ⟨hbl, I1.hok.fresh hbl, _, [.str x, v], ⟨j, x, v, hj, f1, rfl, rfl, kxOf_at f3⟩, fun H3 => ⟨kF _ _ (ne0 _ _ f3) (ka _ _ f3), (by rw [sizeLine_eq]; show 2 ≤ 16777216; omega), [Value.str x t, y], .cons ⟨t, rfl⟩ (.cons f2 .nil), ⟨_, kF _ _ (ne0 _ _ f3) (ka _ _ f3), rfl, 0, rfl⟩⟩⟩
    have hSb : s1.heap.objs.size ≤ h'.objs.size := by omega
    have hSn : h'.objs.size ∉ as := fun z => Nat.lt_irrefl _ (hG.there z)
    have n1 : H1 h'.objs.size = none := I1.hok.fresh hSb
    have n2 : H2 h'.objs.size = none := (oth _ hSn).trans n1
    obtain ⟨os, po, eo⟩ := perm_lift Value.ref o2.perm as rfl
    have rv : Vals (os.map V.ref) out := by rw [← eo]; exact vals_refs os
    have I4 := Inv.lay (o := .lst (os.map V.ref)) I3 (I1.fpOk hSb n2) ⟨(by rw [List.length_map, po.length_eq, hl]; omega), out, eF, rv, heF⟩
    have sx : srtS xs = os.map fun a => kxOf h' (.ref a) := by
      have e1 : (os.map fun a => kxOf h' (.ref a)) = out.map (kxOf h') := by rw [← eo, List.map_map]; rfl
      rw [e1]
      refine perm_one str_anti (srtS_sorted xs) ?_ ?_
      · rw [List.pairwise_map]
        exact List.Pairwise.imp (fun h => List.not_lt.mp (of_decide_eq_false h)) o1
      · have z := o2.perm.map (kxOf h')
        rw [mapx] at z
        exact (srtS_perm xs).trans z.symm
    refine ⟨.ref h'.objs.size, _, I4, rfl, q F2 _ _ (g.trans (Grw.beside g.s n2)) ⟨_, rfl, ⟨_, upd_same, ?_⟩, g.s.free n2, n1⟩⟩
    show DatL X.K F2 _ ((srtS xs).map _)
    rw [sx, List.map_map]
    refine datL_refs _ fun a ha => ?_
    obtain ⟨o, us, ⟨j, x, v, j1, j2, rfl, hdn, hx⟩, hFa⟩ := qt a (po.mem_iff.mp ha)
    show Dat X.K F2 (.ref a) (.tuple [.str (kxOf h' (.ref a)), (getKV ds (.inr (kxOf h' (.ref a)))).getD .none])
    obtain ⟨dv, w1, w2⟩ := DatK.at hD nd0 j2
    rw [hx, w1]
    exact .tup ⟨.inl (.inr ⟨o, hFa⟩), .inl ⟨o, _, hFa, hdn⟩⟩ (.cons (.str x) (.cons (w2.mono g.f) .nil))
def skyL (_ : List (D × D)) (xs : List Str) : List D := (srtS xs).map .str
theorem each_strs {K : PySem.W.Frag} {F : Hp} : ∀ {us : List Value} {xs : List Str}, PySem.W.EachIs (fun (u : Value) (x : Str) => ∃ t, u = Value.str x t) us xs -> Vals (xs.map V.str) us ∧ DatL K F (xs.map V.str) (xs.map .str)
  | _, _, .nil => ⟨.nil, .nil⟩
  | _, _, .cons ⟨t, h⟩ r => by
    obtain ⟨h1, h2⟩ := each_strs (K := K) (F := F) r
    exact ⟨.cons ⟨t, h⟩ h1, .cons (.str _) h2⟩
theorem each_at {R : Value -> Str -> Prop} : ∀ {us : List Value} {xs : List Str}, us.length = xs.length -> (∀ (j : Nat) (u : Value), us[j]? = some u -> ∃ x, xs[j]? = some x ∧ R u x) -> PySem.W.EachIs R us xs
  | [], [], _, _ => .nil
  | [], _ :: _, h, _ => by simp at h
  | _ :: _, [], h, _ => by simp at h
  | u :: us, x :: xs, h, f => by
    refine .cons ?_ (each_at (by simpa using h) fun j v hv => by simpa using f (j + 1) v (by simpa using hv))
    obtain ⟨y, e, r⟩ := f 0 u rfl
    simp at e; subst e; exact r
theorem pe_sky (hc : X.calm = true) (hu : X.A.units + 70 < cLine) (hg : Gl X "sorted") (hm : X.mg "sorted" = none) (he : PE X e te) (hbase : attributeBase e "keys" X.env (eval e X.env) = eval e X.env) (hline : (apos.endLine == cpos.line) = true) :
    PE X (.Call (.Name "sorted" p) [.Call (.Attribute e "keys" apos) [] [] cpos] [] pos) (tSit X.K te skyL) := by
  have hs : starEach [.Call (.Attribute e "keys" apos) [] [] cpos] X.env = (false, eval (.Call (.Attribute e "keys" apos) [] [] cpos) X.env) :: starEach [] X.env := noStar_each rfl
  refine ⟨fun pins s σ H Q I hq => ?_⟩
  refine Call_ (ld_blt I hg hm PyProof.Rows.boot_sorted (PyProof.Rows.callWith_builtin1 (PyProof.Rows.args_cons ?_ hs) hs rfl))
  refine wpAny_Call_method (T := "dict") (id := "dict.keys") hbase rfl hline PySem.F.plainAttrs_dict PySem.F.slot_dict_keys PySem.F.type_dict_keys (thn (he.run pins s σ H _ I hq) fun u s1 ⟨x, H1, I1, rx, F, d, ks, ds, xs, ex, sF, hd, hD, hS, q⟩ => ?_)
  subst ex
  obtain rfl : u = Value.ref d := rx
  obtain ⟨hz, hs0, vs, kv, hdo⟩ := I1.hok d _ hd
  obtain ⟨ep, hat⟩ := hdo.dictAt
  have lk : ks.length = vs.length := Paired.length kv
  have ek := strKs_eq hD hS
  have I2 : Inv X pins σ H1 { s1 with heap := s1.heap.push { cls := .type "dict_keys", data := .fields #[.ref d] } } := I1.kept (t' := s1.toks) fun b ob q => Heap.get?_push_of_some _ q
  refine ⟨hdo.typeIs, hdo.mapOf.noDict, ?_⟩
  show wpAny _ _ (callWith cpos (.builtin "dict.keys") [.ref d] [] []) _ X.xe s1
  refine method_meetsIn PySem.F.slot_dict_keys PySem.F.entry_dict_keys rfl (PySem.evalArgs_none ⟨rfl, hdo.typeIs, PySem.F.args_dict_keys_1 _, _, PySem.W.kdl_meets_keys (mixKind X.prog X.w) d hs0, ⟨vs, hdo⟩, ?_⟩)
  refine PyProof.Rows.args_nil ?_
  have hview : PySem.W.KdlKeysView (s1.heap.push { cls := .type "dict_keys", data := .fields #[.ref d] }) s1.heap.objs.size d := ⟨_, Heap.get?_push_size _ rfl, rfl, rfl⟩
  generalize hs2 : s1.heap.push { cls := .type "dict_keys", data := .fields #[.ref d] } = hp2 at I2 hview ⊢
  have hat2 : hp2.DictAt (mixKind X.prog X.w) d vs ep := by rw [← hs2]; exact hat.push _
  have sz2 : hp2.objs.size = s1.heap.objs.size + 1 := by rw [← hs2, PyProof.Rows.size_push']
  have hh : X.A.handled = none := I1.ok.hd hc
  refine Calls.call_function_entry PyProof.Rows.kind_sorted PyProof.Rows.plain_sorted PyProof.Rows.entry_sorted (PyProof.Rows.args_sorted1 _) ?_
  unfold Builtin.«sorted»
  refine wpAny_bind (m := checkCount "sorted" 1 1 _) (wpAny_pure ?_)
  refine wpAny_bind (PySem.W.kdu_collect (s := { s1 with heap := hp2 }) (A := X.A.in1) (PySem.W.kdl_keys (knd := mixKind X.prog X.w) (kvs := vs) (ep := ep)) hh ⟨hview, hat2⟩ (by omega) fun h' tk acc hk hacc => ?_)
  have la : acc.toList.length = vs.length := by rw [Array.length_toList]; exact hacc.1
  refine wpAny_bind (wpAny_newList ?_ (by omega))
  have hk : ∀ b o, hp2.get? b = some o -> h'.get? b = some o := hk
  have sz3 : hp2.objs.size ≤ h'.objs.size := by
    obtain ⟨ov, hov, _⟩ := hview
    have z : s1.heap.objs.size < h'.objs.size := Heap.lt_size (hk _ _ hov)
    omega
  have lx : xs.length = vs.length := by
    have z := congrArg List.length ek
    rw [List.length_map, List.length_map] at z
    omega
  have each : PySem.W.EachIs (fun (u : Value) (x : Str) => ∃ t, u = Value.str x t) acc.toList xs := by
    refine each_at (by omega) fun j u hj => ?_
    obtain ⟨k, y, f1, f2⟩ := hacc.2 j u (by rw [← Array.getElem?_toList]; exact hj)
    obtain ⟨⟨k2, v⟩, g1, g2, g3⟩ := paired_at kv f1
    have e1 : (ks.map (·.1))[j]? = some k2 := by rw [List.getElem?_map, g1]; rfl
    rw [ek, List.getElem?_map] at e1
    cases ex : xs[j]? with
    | none => rw [ex] at e1; cases e1
    | some x =>
      rw [ex] at e1
      have e1 : Sum.inr x = k2 := Option.some.inj e1
      have g2 : k2 = k := g2
      subst e1
      subst g2
      exact ⟨x, rfl, (show RelV (kV (.inr x)) u from relV_key (show keyIs (.inr x) u = true from f2))⟩
  have hob : (h'.push { cls := .type "list", data := .seq acc.toList.toArray }).get? h'.objs.size = some (seqObj "list" acc.toList.toArray 0) := Heap.get?_push_size _ rfl
  have ne0 : ∀ b o, h'.get? b = some o -> b ≠ h'.objs.size := fun b o e => Nat.ne_of_lt (Heap.lt_size e)
  generalize hh3 : h'.push { cls := .type "list", data := .seq acc.toList.toArray } = h3 at hob ⊢
  have ka : ∀ b o, h'.get? b = some o -> h3.get? b = some o := fun b o e => by rw [← hh3]; exact Heap.get?_push_of_some _ e
  refine wpAny_bind (wpAny_holding (PySem.W.list_sort_data (s := { s1 with heap := h3, toks := tk }) (R := fun (u : Value) (x : Str) => ∃ t, u = Value.str x t) (enc := PyData.str) (bs := xs) hob each (each.mono fun u x ⟨t, z⟩ => ⟨[], by subst z; exact .str x t, by simp⟩) (PySem.W.AllAlike.of fun _ _ => by simp [PySem.W.alike]) (PySem.W.Sortable.others fun b => ⟨by simp, fun _ => by simp⟩) (by omega) (fun b _ => by show X.A.units + 1 + 1 + 0 < cLine; omega) fun out o1 o2 => ?_))
  refine wpAny_pure ⟨_, rfl, ?_⟩
  show EP X pins σ Q (.ref h'.objs.size) { s1 with heap := sortedHeap h3 h'.objs.size acc.toList out.toArray, toks := tk }
  have o2 : PySem.W.EachIs (fun (u : Value) (x : Str) => ∃ t, u = Value.str x t) out (srtS xs) := by
    unfold srtS
    have z := PySem.W.dataLe_str (fun x : Str => x)
    rw [← z]
    exact o2
  obtain ⟨rv, rd⟩ := each_strs (K := X.K) (F := F) o2
  have kF : ∀ b o, b ≠ h'.objs.size -> h3.get? b = some o -> (sortedHeap h3 h'.objs.size acc.toList out.toArray).get? b = some o := fun b o hb e => (PyProof.Rows.sortedHeap_old hb (Heap.lt_size e)).trans e
  have kS : ∀ b o, hp2.get? b = some o -> (sortedHeap h3 h'.objs.size acc.toList out.toArray).get? b = some o := fun b o e => kF b o (ne0 _ _ (hk b o e)) (ka _ _ (hk b o e))
  obtain ⟨eF, heF⟩ := PyProof.Rows.sortedHeap_at (vs := acc.toList) (out := out.toArray) hob
  have hSb : s1.heap.objs.size ≤ h'.objs.size := by omega
  have n1 : H1 h'.objs.size = none := I1.hok.fresh hSb
  have IF : Inv X pins σ H1 { s1 with heap := sortedHeap h3 h'.objs.size acc.toList out.toArray, toks := tk } := I2.kept (t' := tk) kS
  have I4 := Inv.lay (o := .lst ((srtS xs).map V.str)) IF (I1.fpOk hSb n1) ⟨(by rw [List.length_map, (srtS_perm xs).length_eq]; omega), out, eF, rv, heF⟩
  exact ⟨.ref h'.objs.size, _, I4, rfl, q F _ _ (Grw.beside sF n1) ⟨_, rfl, ⟨_, upd_same, rd⟩, sF.free n1, n1⟩⟩
end
section
variable {X : Cx} {Γ : Calls} {gl : Str -> Option D} {W : WX} {a : Expr} {ca : CE} {pos cpos apos p : Pos}
theorem base_of {m : Str} (hb : noSuper a = true) : attributeBase a m X.env (eval a X.env) = eval a X.env := by
  cases a with
  | Call f as ks p => cases f with
    | Name id p2 => cases as with
      | nil => cases ks with
        | nil => simp [noSuper] at hb
        | cons _ _ => rfl
      | cons _ _ => cases ks <;> rfl
    | _ => rfl
  | _ => rfl
theorem sit_red {mk : List (D × D) -> List Str -> List D} {f : D -> Option Rv} (hf : ∀ d y, f d = some y -> ∃ ds xs, d = .dict ds ∧ strKs ds = some xs ∧ y = .own (.list (mk ds xs))) {x : Fx} {F H : Hp} {σ : L2.St} {δ : DEnv} {Q : VK} (R : Rel X.K x F σ H δ)
    (pp : PostG X.K x σ W (RV X.K x σ) ((evalE Γ gl ca δ).bind fun r δ1 => rdTo δ1 r f) F Q) : tSit X.K (tE X.K Γ gl W ca) mk σ H Q := by
  refine ⟨x, F, δ, R, pp.bind fun r1 δ1 F1 H1 v R1 s1 rv1 p1 => ?_⟩
  obtain ⟨dd, y, _, hd, e, q⟩ := rdTo_of R1 rv1 p1
  obtain ⟨ds, xs, rfl, hx, rfl⟩ := hf _ _ e
  obtain ⟨b, ks, rfl, h1, t⟩ := hd.dict R1.sub
  exact ⟨F1, b, ks, ds, xs, rfl, R1.sub, h1, t, hx, fun F' H' w g n => q F' H' w (R1.grw g) g.f (R1.resN n)⟩
theorem snd_sit (hc : X.calm = true) (hg : Gl X "sorted") (hm : X.mg "sorted" = none) (hb : noSuper a = true) (hline : (apos.endLine == cpos.line) = true) (ha : PE X a (tE X.K Γ gl W ca)) :
    PE X (.Call (.Name "sorted" p) [.Call (.Attribute a "items" apos) [] [] cpos] [] pos) (tE X.K Γ gl W (.sit ca)) := by
  refine PE.imp (pe_sit hc hg hm ha (base_of hb) hline) fun σ H Q ⟨x, F, δ, R, pp⟩ => ?_
  unfold evalE at pp
  refine sit_red (fun d y e => ?_) R pp
  cases d with
  | dict ds =>
    obtain ⟨xs, h1, rfl⟩ := map_some (show (strKs ds).map (fun ks => Rv.own (.list (sitL ds ks))) = some y from e)
    exact ⟨ds, xs, rfl, h1, rfl⟩
  | _ => cases e
theorem snd_sky (hc : X.calm = true) (hu : X.A.units + 70 < cLine) (hg : Gl X "sorted") (hm : X.mg "sorted" = none) (hb : noSuper a = true) (hline : (apos.endLine == cpos.line) = true) (ha : PE X a (tE X.K Γ gl W ca)) :
    PE X (.Call (.Name "sorted" p) [.Call (.Attribute a "keys" apos) [] [] cpos] [] pos) (tE X.K Γ gl W (.sky ca)) := by
  refine PE.imp (pe_sky hc hu hg hm ha (base_of hb) hline) fun σ H Q ⟨x, F, δ, R, pp⟩ => ?_
  unfold evalE at pp
  refine sit_red (fun d y e => ?_) R pp
  cases d with
  | dict ds =>
    obtain ⟨xs, h1, rfl⟩ := map_some (show (strKs ds).map (fun ks => Rv.own (.list (skyL ds ks))) = some y from e)
    exact ⟨ds, xs, rfl, h1, rfl⟩
  | _ => cases e
/-! displays -/
inductive PsOk (Γ : Calls) (gl : Str -> Option D) (W : WX) (X : Cx) : List (Option Expr) -> List Expr -> CEs -> List (TE × TE) -> Prop
  | nil : PsOk Γ gl W X [] [] .nil []
  | cons {k v : Expr} {ck cv : CE} {ks : List (Option Expr)} {vs : List Expr} {r : CEs} {trs : List (TE × TE)} : PE X k (tE X.K Γ gl W ck) -> PE X v (tE X.K Γ gl W cv) -> PsOk Γ gl W X ks vs r trs ->
      PsOk Γ gl W X (some k :: ks) (v :: vs) (.cons ck (.cons cv r)) ((tE X.K Γ gl W ck, tE X.K Γ gl W cv) :: trs)
theorem PsOk.pps {ks : List (Option Expr)} {vs : List Expr} {r : CEs} {trs : List (TE × TE)} (h : PsOk Γ gl W X ks vs r trs) : PPs X pos ks vs trs := by
  induction h with
  | nil => exact pps_nil
  | cons h1 h2 _ ih => exact pps_cons h1 h2 ih
/-- pairs as a row -/
def flatP {α : Type} : List (α × α) -> List α
  | [] => []
  | p :: r => p.1 :: p.2 :: flatP r
theorem evalEs_cons {e : CE} {r : CEs} {δ : DEnv} : evalEs Γ gl (.cons e r) δ = (evalE Γ gl e δ).bind fun v δ1 => (esc v δ1).bind fun d δ2 => (evalEs Γ gl r δ2).bind fun ds δ3 => .ok (d :: ds) δ3 := by
  conv => lhs; unfold evalEs
theorem obind_assoc {α β γ : Type} {o : Out α} {f : α -> DEnv -> Out β} {g : β -> DEnv -> Out γ} : (o.bind f).bind g = o.bind fun a δ => (f a δ).bind g := by
  cases o <;> rfl
theorem PsOk.red {K : PySem.W.Frag} (hK : K = X.K) {ks : List (Option Expr)} {vs : List Expr} {r : CEs} {trs : List (TE × TE)} (h : PsOk Γ gl W X ks vs r trs) : ∀ {x : Fx} {F H : Hp} {σ : L2.St} {δ : DEnv} {Q : List (V × V) -> Hp -> Prop}, Rel K x F σ H δ ->
    PostG K x σ W (fun F' _ _ (us : List (V × V)) ds => DatL K F' (flatP us) ds) (evalEs Γ gl r δ) F Q -> tPairs trs σ H Q := by
  subst hK
  induction h with
  | nil =>
    intro x F H σ δ Q R p
    unfold evalEs at p
    exact p F H [] R (Same.refl _) .nil
  | @cons k v ck cv ks vs r trs h1 h2 _ ih =>
    intro x F H σ δ Q R p
    have e0 : evalEs Γ gl (.cons ck (.cons cv r)) δ = (evalE Γ gl ck δ).bind fun v δ1 => (esc v δ1).bind fun d δ2 => (evalE Γ gl cv δ2).bind fun v δ1 => (esc v δ1).bind fun d2 δ2 => (evalEs Γ gl r δ2).bind fun ds δ3 => .ok (d :: d2 :: ds) δ3 := by
      rw [evalEs_cons]
      congr 1
      funext v δ1
      congr 1
      funext d δ2
      rw [evalEs_cons, obind_assoc]
      congr 1
      funext v δ1
      rw [obind_assoc]
      congr 1
      funext d δ2
      rw [obind_assoc]
      rfl
    rw [e0] at p
    refine ⟨x, F, δ, R, p.bind fun r1 δ1 F1 H1 v R1 s1 rv1 p1 => ?_⟩
    cases e1 : esc r1 δ1 with
    | no => rw [e1] at p1; exact p1.elim
    | ex e δ2 => exact absurd e1 esc_nex
    | ok dt δ2 =>
      rw [e1] at p1
      simp only [Out.bind] at p1
      obtain ⟨F2, R2, s2, hd⟩ := R1.esc rv1 e1
      refine ⟨x, F2, δ2, R2, (PostG.base s2 p1).bind fun r3 δ3 F3 H3 w R3 s3 rv3 p3 => ?_⟩
      cases e3 : esc r3 δ3 with
      | no => rw [e3] at p3; exact p3.elim
      | ex e δ4 => exact absurd e3 esc_nex
      | ok dt2 δ4 =>
        rw [e3] at p3
        simp only [Out.bind] at p3
        obtain ⟨F4, R4, s4, hd4⟩ := R3.esc rv3 e3
        refine ih R4 ((PostG.base s4 p3).bind fun ds δ5 F5 H5 us R5 s5 hds p5 => ?_)
        exact p5 F5 H5 ((v, w) :: us) R5 (Same.refl _) (.cons ((hd.mono s3).mono (s4.trans s5)) (.cons (hd4.mono s5) hds))
theorem up_dat {K : PySem.W.Frag} {F : Hp} : ∀ {us : List (V × V)} {ds : List D} {md : List (Key × D)}, DatL K F (flatP us) ds -> pairUp ds = some md -> ∃ kvs : List (Key × V), us = kvs.map (fun kv => (kV kv.1, kv.2)) ∧ DatK K F kvs (mD md)
  | [], ds, md, h, e => by
    cases h
    cases e
    exact ⟨[], rfl, .nil⟩
  | (u, y) :: us, ds, md, h, e => by
    cases h with
    | @cons _ _ a _ h1 h =>
      cases h with
      | @cons _ _ b ds h2 h =>
        unfold pairUp at e
        split at e
        · rename_i k ps0 g1 g2
          cases e
          obtain ⟨kvs, rfl, r⟩ := up_dat h g2
          have ea := keyD_eq g1
          subst ea
          have eu : u = kV k := by
            cases k with
            | inl i => cases h1; rfl
            | inr x => cases h1; rfl
          subst eu
          exact ⟨(k, y) :: kvs, rfl, .cons h2 r⟩
        · cases e
/-- an object that stands beside all, while others are made -/
def Fx.hold (x : Fx) (p : Addr) (o : HO) : Fx := { x with G := upd x.G p o }
section
variable {K : PySem.W.Frag} {x : Fx} {F H : Hp} {σ : L2.St} {δ : DEnv} {p : Addr} {o : HO}
theorem Rel.hold (R : Rel K x F σ H δ) (np : H p = none) : Rel K (x.hold p o) F σ (upd H p o) δ := by
  have nF := R.nF np
  have B := R.beside o np
  refine ⟨B.len, B.sub, same_upd2 R.frm, B.f0, fun a h => ?_, B.slot, fun i c a h1 h2 h3 => ?_, B.sep, B.par, B.inp⟩
  · rcases R.ext a h with z | z
    · exact .inl z
    · refine .inr ?_
      show upd x.G p o a = none
      rw [upd_ne (fun q => by subst q; exact h nF)]; exact z
  · obtain ⟨z1, z2⟩ := R.own i c a h1 h2 h3
    refine ⟨z1, ?_⟩
    show upd x.G p o a = none
    rw [upd_ne]
    · exact z2
    · rintro rfl
      obtain ⟨b, e1, u, e2⟩ := (R.slot i c h1).ownA h2
      rw [h3] at e1; cases e1
      rw [np] at e2; cases e2
theorem Rel.unhold (nG : x.G p = none) (R : Rel K (x.hold p o) F σ H δ) : Rel K x F σ H δ := by
  have up : ∀ a, upd x.G p o a = none -> x.G a = none := fun a h => by
    by_cases z : a = p
    · rw [z]; exact nG
    · rw [upd_ne z] at h; exact h
  exact ⟨R.len, R.sub, (same_upd nG).trans R.frm, R.f0, fun a h => (R.ext a h).elim .inl fun z => .inr (up a z), R.slot, fun i c a h1 h2 h3 => let ⟨z1, z2⟩ := R.own i c a h1 h2 h3; ⟨z1, up a z2⟩, R.sep, R.par, R.inp⟩
theorem Rel.held (nF0 : x.F0 p = none) (R : Rel K (x.hold p o) F σ H δ) : H p = some o ∧ F p = none ∧ ∀ (i : Nat) (c : Cell), δ[i]? = some c -> c.isOwn = true -> σ[i]? ≠ some (some (V.ref p)) := by
  refine ⟨R.frm p o (by show upd x.G p o p = _; exact upd_same), ?_, fun i c h1 h2 h3 => ?_⟩
  · cases z : F p with
    | none => rfl
    | some u =>
      rcases R.ext p (by rw [z]; exact fun q => by cases q) with q | q
      · exact absurd nF0 q
      · have q : upd x.G p o p = none := q
        rw [upd_same] at q; cases q
  · have q : upd x.G p o p = none := (R.own i c p h1 h2 h3).2
    rw [upd_same] at q; cases q
theorem Rel.atp {o : HO} (R : Rel K x F σ H δ) (nF : F p = none) (nG : x.G p = none) (ns : ∀ (i : Nat) (c : Cell), δ[i]? = some c -> c.isOwn = true -> σ[i]? ≠ some (some (V.ref p))) : Rel K x F σ (upd H p o) δ :=
  ⟨R.len, same_updR R.sub nF, same_updR R.frm nG, R.f0, R.ext, fun i c q => (R.slot i c q).mono (Same.refl _) fun a u h1 h2 h3 => (by rw [upd_ne (fun z => ns i c q h1 (by rw [h2, z]))]; exact h3), R.own, R.sep, R.par, R.inp⟩
end
theorem snd_dsp {ks : List (Option Expr)} {vs : List Expr} {r : CEs} {trs : List (TE × TE)} (h : PsOk Γ gl W X ks vs r trs) (hall : ks.all (·.isSome) = true) (hl : ks.length = vs.length) (h15 : ks.length ≤ 15) : PE X (.Dict ks vs pos) (tE X.K Γ gl W (.dsp r)) := by
  by_cases h0 : ks = []
  · subst h0
    cases h
    refine PE.imp pe_dnewK fun σ H Q ⟨x, F, δ, R, pp⟩ => ?_
    unfold evalE at pp
    unfold evalEs at pp
    intro q np
    exact pp F _ _ (R.beside _ np) (Same.refl _) (R.resN (u := .ref q) (r := .own (.dict [])) ⟨q, rfl, ⟨[], upd_same, .nil⟩, R.nF np, np⟩)
  · refine PE.imp (pe_disp h.pps hall hl h0 h15) fun σ H Q ⟨x, F, δ, R, pp⟩ => ?_
    unfold evalE at pp
    intro q np
    have nG := R.nG np
    have nF0 : x.F0 q = none := R.f0.free (R.nF np)
    refine h.red rfl (R.hold (o := .dK []) np) ?_
    cases ev : evalEs Γ gl r δ with
    | no => rw [ev] at pp; exact pp.elim
    | ex e δ1 =>
      rw [ev] at pp
      exact fun F' H' c d R' s' r' => pp F' H' c d (R'.unhold nG) s' r'
    | ok ds δ1 =>
      rw [ev] at pp
      simp only [Out.bind] at pp
      intro F' H' us R' s' hds
      cases eu : pairUp ds with
      | none => rw [eu] at pp; exact pp.elim
      | some md =>
        rw [eu] at pp
        simp only at pp
        split at pp
        · rename_i hz
          obtain ⟨kvs, rfl, hk⟩ := up_dat hds eu
          obtain ⟨c1, c2, c3⟩ := R'.held nF0
          have lk : kvs.length ≤ 15 := by
            have z := hk.len
            rw [List.length_map] at z
            omega
          refine ⟨c1, kvs, rfl, lk, ?_⟩
          have R2 := R'.unhold nG
          refine pp F' _ _ (R2.atp c2 nG c3) s' ⟨q, rfl, ⟨_, upd_same, DatK.merge _ _ hk .nil⟩, c2, nG, c3⟩
        · exact pp.elim
end
end DE

/-! DS5: zip of two tuples, the pairs known. -/
namespace DE
open PySem PySem.Spec PyProof.Rows L2
/-- zip(a, b): the pairs are new tuples, bare -/
def ItzF (K : PySem.W.Frag) (a b : Addr) : It :=
  ⟨fun i H => ∃ (xs ys : List V) (x y : V), SqT K H a xs ∧ SqT K H b ys ∧ xs[i]? = some x ∧ ys[i]? = some y,
    fun i H v H' => ∃ T o x y, v = .ref T ∧ H T = none ∧ o.dict = none ∧ H' = upd H T (.frz o (.tup [x, y])) ∧ (∀ xs, SqT K H a xs -> xs[i]? = some x) ∧ ∀ ys, SqT K H b ys -> ys[i]? = some y,
    fun i H => ∃ xs ys : List V, SqT K H a xs ∧ SqT K H b ys ∧ (xs.length ≤ i ∨ ys.length ≤ i)⟩
theorem zip_five {c z TI TO i1 i2 : Addr} (h : c ∈ [z, TI, TO, i1, i2]) : c = z ∨ c = TI ∨ c = TO ∨ c = i1 ∨ c = i2 := by simpa using h
theorem zip_out {c z TI TO i1 i2 : Addr} (h : c ∉ [z, TI, TO, i1, i2]) : c ≠ z ∧ c ≠ TI ∧ c ≠ TO ∧ c ≠ i1 ∧ c ≠ i2 := by simpa using h
theorem turn_zipF {P : Program} {w : World} {K : PySem.W.Frag} {elts : List Expr} {kk : Nat} {tpos : Pos} {a b z TI TO i1 i2 : Addr} (D : ZipApart z TI TO i1 i2 a b) :
    Turn P w K (.Tuple elts kk tpos) (ItzF K a b) [z, TI, TO, i1, i2] z (fun i h => IsZip h z TI TO .none ∧ IsPair h TI (.ref i1) (.ref i2) ∧ (∃ x y, IsPair h TO x y) ∧ h.IsTupleIter i1 a i ∧ h.IsTupleIter i2 b i) where
  mem := (RZ.turn_zipT (K := K) (P := P) (w := w) (elts := elts) (kk := kk) (tpos := tpos) D).mem
  obj := (RZ.turn_zipT (K := K) (P := P) (w := w) (elts := elts) (kk := kk) (tpos := tpos) D).obj
  keep := (RZ.turn_zipT (K := K) (P := P) (w := w) (elts := elts) (kk := kk) (tpos := tpos) D).keep
  done := (RZ.turn_zipT (K := K) (P := P) (w := w) (elts := elts) (kk := kk) (tpos := tpos) D).done
  self := (RZ.turn_zipT (K := K) (P := P) (w := w) (elts := elts) (kk := kk) (tpos := tpos) D).self
  item := by
    intro X hP hw hK hc i pins s σ H E I hf st hg
    subst hP hw hK
    obtain ⟨hz, hTI, ⟨x0, y0, hTO⟩, h1, h2⟩ := st
    obtain ⟨xs, ys, x, y, hqx, hqy, hx, hy⟩ := hg
    obtain ⟨us, rv, p, _⟩ := I.tuple hqx
    obtain ⟨ws, rv2, p2, _⟩ := I.tuple hqy
    obtain ⟨u, hu, ru⟩ := rv.get hx
    obtain ⟨u2, hu2, ru2⟩ := rv2.get hy
    have hzl : z < s.heap.objs.size := Heap.lt_size hz
    refine RZ.pyNext_zipT_item D hz hTI hTO h1 h2 p p2 (x := u) (y := u2) (by simpa using hu) (by simpa using hu2) fun h' z' TO' h1' h2' hT hsz hk => ⟨_, rfl, wpAny_letOwnedTupleGo_zip (s := { s with heap := h' }) z' fun h'' z'' sb => ?_⟩
    have hT2 : h''.get? s.heap.objs.size = some (tupO [u, u2]) := (sb.2 _ (Nat.ne_of_gt hzl)).trans hT
    have new : ObjOk X.prog X.w (upd H s.heap.objs.size (.frz (tupO [u, u2]) (.tup [x, y]))) h'' s.heap.objs.size (.frz (tupO [u, u2]) (.tup [x, y])) :=
      ⟨hT2, (by show 2 ≤ sizeLine; decide), [u, u2], .cons ru (.cons ru2 .nil), ⟨_, hT2, rfl, _, rfl⟩⟩
    have I1 := I.turnedNew (t' := s.toks) (ch := [z, TI, TO, i1, i2]) (fun c o hb q => let ⟨n1, n2, n3, n4, n5⟩ := zip_out hb; (sb.2 c n1).trans (hk c o n1 n3 n4 n5 q)) hf (Nat.le_refl _) new
    refine ⟨.ref s.heap.objs.size, _, I1, rfl, ⟨_, _, x, y, rfl, I.hok.fresh (Nat.le_refl _), rfl, rfl, fun l hl => (by rw [I.tuple_inj hl hqx]; exact hx), fun l hl => (by rw [I.tuple_inj hl hqy]; exact hy)⟩, ⟨z'', ?_, ⟨u, u2, ?_⟩, ?_, ?_⟩, fun c hcm => ?_⟩
    · exact (sb.2 TI D.TIz).trans (hk _ _ D.TIz D.TITO D.TIi1 D.TIi2 hTI)
    · exact (sb.2 TO D.TOz).trans TO'
    · exact h1'.at fun o q => (sb.2 i1 D.i1z).trans q
    · exact h2'.at fun o q => (sb.2 i2 D.i2z).trans q
    · have hlt : c < s.heap.objs.size := by
        rcases zip_five hcm with q | q | q | q | q <;> rw [q]
        · exact hzl
        · exact Heap.lt_size hTI
        · exact Heap.lt_size hTO
        · obtain ⟨_, e1, _⟩ := h1; exact Heap.lt_size e1
        · obtain ⟨_, e2, _⟩ := h2; exact Heap.lt_size e2
      rw [upd_ne (Nat.ne_of_lt hlt)]
      exact (hf c hcm).1
def iZipF (K : PySem.W.Frag) (ta : TA) : TI := fun σ H R => ta σ H fun vs H1 => ∃ a b xs ys, vs = [.ref a, .ref b] ∧ SqT K H1 a xs ∧ SqT K H1 b ys ∧ R (ItzF K a b) H1
theorem pi_zipF {X : Cx} {e e2 : Expr} {ta : TA} {p pos tpos : Pos} {elts : List Expr} {kk : Nat} (hg : Gl X "zip") (hm : X.mg "zip" = none) (ha : PA X [e, e2] ta)
    (hs : starEach [e, e2] X.env = (false, eval e X.env) :: starEach [e2] X.env) (hpl : (backTo pos (starEach [e2] X.env)).any (·.1) = false) :
    PI X (.Tuple elts kk tpos) (.Call (.Name "zip" p) [e, e2] [] pos) (iZipF X.K ta) := by
  refine ⟨fun pins s σ H R I h => ?_⟩
  refine Call_ (ld_blt I hg hm PyProof.Rows.boot_zip (PyProof.Rows.callWith_type1 (thn (ha.run pos pins s σ H _ I h) fun us s1 ⟨vs, H1, I1, r1, a, b, xs, ys, ex, hqx, hqy, q⟩ => ?_) hs hpl))
  subst ex
  cases r1 with
  | cons r rr =>
    cases rr with
    | cons r' rr =>
      cases rr; cases r; cases r'
      have fresh5 : ∀ c, c ∈ [s1.heap.objs.size + 4, s1.heap.objs.size + 2, s1.heap.objs.size + 3, s1.heap.objs.size, s1.heap.objs.size + 1] -> FpOk X pins H1 c := fun c hcm => by
        have hle : s1.heap.objs.size ≤ c := by
          rcases zip_five hcm with z | z | z | z | z <;> (rw [z]; first | exact Nat.le_add_right _ _ | exact Nat.le_refl _)
        exact I1.fpOk hle (I1.hok.fresh hle)
      obtain ⟨us, rv, p1, _⟩ := I1.tuple hqx
      obtain ⟨ws, rv2, p2, _⟩ := I1.tuple hqy
      obtain ⟨o1, ho1, _⟩ := id p1
      obtain ⟨o2, ho2, _⟩ := id p2
      refine RZ.call_zipT (show s1.heap.IsTuple a us.toArray from p1) (show s1.heap.IsTuple b ws.toArray from p2) fun h' hz hTI hTO h1 h2 hsz hk => wpAny_pyIter_zip hz ?_
      have I2 : Inv X pins σ H1 { s1 with heap := h' } := I1.kept (t' := s1.toks) hk
      exact ⟨_, [_, _, _, _, _], _, _, H1, rfl, I2, turn_zipF (PySem.W.ktu_apart s1.heap.objs.size a b (Heap.lt_size ho1) (Heap.lt_size ho2)), ⟨hz, hTI, ⟨_, _, hTO⟩, h1, h2⟩, fresh5, q⟩
end DE

/-! DE11: targets, what is walked, comprehensions. -/
namespace DE
open PySem PySem.Spec PyProof.Rows L2
section
variable {K : PySem.W.Frag} {x : Fx} {F H : Hp} {σ : L2.St} {δ : DEnv}
/-- a slot takes a value -/
theorem Rel.set (R : Rel K x F σ H δ) {i : Nat} {c c0 : Cell} {v : V} (q : δ[i]? = some c0) (ni : ∀ d, c0 ≠ .inp d) (hc : ∀ d, c ≠ .inp d) (hs : SlotR K F H (some (some v)) c)
    (ho : c.isOwn = true -> ∀ a, v = .ref a -> F a = none ∧ x.G a = none ∧ ∀ (j : Nat) (e : Cell), j ≠ i -> δ[j]? = some e -> e.isOwn = true -> σ[j]? ≠ some (some (V.ref a))) : Rel K x F (σ.set i (some v)) H (δ.set i c) := by
  have hi : i < δ.length := (List.getElem?_eq_some_iff.mp q).1
  have hiσ : i < σ.length := by rw [R.len]; exact hi
  refine ⟨by rw [List.length_set, List.length_set]; exact R.len, R.sub, R.frm, R.f0, R.ext, fun j e z => ?_, fun j e b z o2 w => ?_, fun j k e e2 b njk z1 o1 z2 o2 w => ?_, fun p hp => ?_, fun j d z => ?_⟩
  · rcases set_get z with ⟨rfl, rfl, _⟩ | ⟨nj, y⟩
    · rw [List.getElem?_set_self hiσ]; exact hs
    · rw [List.getElem?_set_ne (Ne.symm nj)]; exact R.slot j e y
  · rcases set_get z with ⟨rfl, rfl, _⟩ | ⟨nj, y⟩
    · rw [List.getElem?_set_self hiσ] at w; cases w
      obtain ⟨h1, h2, _⟩ := ho o2 b rfl
      exact ⟨h1, h2⟩
    · rw [List.getElem?_set_ne (Ne.symm nj)] at w; exact R.own j e b y o2 w
  · rcases set_get z1 with ⟨e1, e1', _⟩ | ⟨nj, y1⟩
    · subst e1'
      rcases set_get z2 with ⟨e2, _, _⟩ | ⟨nk, y2⟩
      · exact absurd (e1.trans e2.symm) njk
      · rw [e1, List.getElem?_set_self hiσ] at w; cases w
        rw [List.getElem?_set_ne (Ne.symm nk)]
        exact (ho o1 b rfl).2.2 k e2 nk y2 o2
    · rcases set_get z2 with ⟨e2, e2', _⟩ | ⟨nk, y2⟩
      · subst e2'
        rw [List.getElem?_set_ne (Ne.symm nj)] at w
        rw [e2, List.getElem?_set_self hiσ]
        intro zz; cases zz
        exact (ho o2 b rfl).2.2 j e nj y1 o1 w
      · rw [List.getElem?_set_ne (Ne.symm nj)] at w
        rw [List.getElem?_set_ne (Ne.symm nk)]
        exact R.sep j k e e2 b njk y1 o1 y2 o2 w
  · obtain ⟨h1, d, h2⟩ := R.par p hp
    have z : p.1 ≠ i := fun z => by rw [z, q] at h2; cases h2; exact ni d rfl
    exact ⟨by rw [List.getElem?_set_ne (Ne.symm z)]; exact h1, d, by rw [List.getElem?_set_ne (Ne.symm z)]; exact h2⟩
  · rcases set_get z with ⟨rfl, h, _⟩ | ⟨nj, y⟩
    · exact absurd h.symm (hc d)
    · rw [List.getElem?_set_ne (Ne.symm nj)]; exact R.inp j d y
theorem Rel.setPure (R : Rel K x F σ H δ) {i : Nat} {c0 : Cell} {v : V} {d : D} (q : δ[i]? = some c0) (ni : ∀ d, c0 ≠ .inp d) (hd : Dat K F v d) : Rel K x F (σ.set i (some v)) H (δ.set i (.pure d)) :=
  R.set q ni (fun _ z => by cases z) ⟨v, rfl, hd⟩ fun z => by cases z
theorem wipe_out {σ : L2.St} {i : Nat} : ∀ {vs : List Nat}, i ∉ vs -> (wipe σ vs)[i]? = σ[i]?
  | [], _ => rfl
  | v :: vs, h => by
    rw [List.mem_cons, not_or] at h
    show ((wipe σ vs).set v none)[i]? = _
    rw [List.getElem?_set_ne (Ne.symm h.1), wipe_out h.2]
theorem wipeE_length (δ : DEnv) : ∀ vs : List Nat, (wipeE δ vs).length = δ.length
  | [] => rfl
  | v :: vs => by unfold wipeE; rw [List.length_set, wipeE_length δ vs]
theorem wipeE_out {i : Nat} : ∀ {vs : List Nat}, i ∉ vs -> (wipeE δ vs)[i]? = δ[i]?
  | [], _ => rfl
  | v :: vs, h => by
    rw [List.mem_cons, not_or] at h
    show ((wipeE δ vs).set v .emp)[i]? = _
    rw [List.getElem?_set_ne (Ne.symm h.1), wipeE_out h.2]
theorem wipeE_in {i : Nat} {c : Cell} : ∀ {vs : List Nat}, i ∈ vs -> (wipeE δ vs)[i]? = some c -> c = .emp
  | v :: vs, h, e => by
    have e : ((wipeE δ vs).set v .emp)[i]? = some c := e
    rcases set_get e with ⟨_, h2, _⟩ | ⟨h1, h2⟩
    · exact h2
    · rcases List.mem_cons.mp h with z | z
      · exact absurd z h1
      · exact wipeE_in z h2
theorem Rel.wipe (R : Rel K x F σ H δ) {vs : List Nat} (hP : ∀ p ∈ x.P, p.1 ∉ vs) : Rel K x F (L2.wipe σ vs) H (wipeE δ vs) := by
  have out : ∀ {i : Nat} {c : Cell}, (wipeE δ vs)[i]? = some c -> c ≠ .emp -> i ∉ vs ∧ δ[i]? = some c ∧ (L2.wipe σ vs)[i]? = σ[i]? := fun {i c} h n => by
    by_cases z : i ∈ vs
    · exact absurd (wipeE_in z h) n
    · exact ⟨z, by rw [wipeE_out z] at h; exact h, wipe_out z⟩
  have own : ∀ {c : Cell}, c.isOwn = true -> c ≠ .emp := fun {c} h z => by subst z; cases h
  refine ⟨by rw [wipe_length, wipeE_length]; exact R.len, R.sub, R.frm, R.f0, R.ext, fun i c h => ?_, fun i c a h o w => ?_, fun i j c e a nij h1 o1 h2 o2 w => ?_, fun p hp => ?_, fun i d h => ?_⟩
  · cases c with
    | emp => trivial
    | _ => obtain ⟨_, h1, h2⟩ := out h (fun z => by cases z); rw [h2]; exact R.slot i _ h1
  · obtain ⟨_, h1, h2⟩ := out h (own o)
    rw [h2] at w; exact R.own i c a h1 o w
  · obtain ⟨_, g1, g2⟩ := out h1 (own o1)
    obtain ⟨_, g3, g4⟩ := out h2 (own o2)
    rw [g2] at w
    rw [g4]
    exact R.sep i j c e a nij g1 o1 g3 o2 w
  · obtain ⟨h1, d, h2⟩ := R.par p hp
    have z := hP p hp
    exact ⟨by rw [wipe_out z]; exact h1, d, by rw [wipeE_out z]; exact h2⟩
  · obtain ⟨_, h1, h2⟩ := out h (fun z => by cases z)
    rw [h2]; exact R.inp i d h1
theorem rstE_length (δ0 : DEnv) : ∀ vs : List Nat, (rstE δ0 δ vs).length = δ.length
  | [] => rfl
  | v :: vs => by unfold rstE; rw [List.length_set, rstE_length δ0 vs]
theorem rstE_out {δ0 : DEnv} {i : Nat} : ∀ {vs : List Nat}, i ∉ vs -> (rstE δ0 δ vs)[i]? = δ[i]?
  | [], _ => rfl
  | v :: vs, h => by
    rw [List.mem_cons, not_or] at h
    show ((rstE δ0 δ vs).set v _)[i]? = _
    rw [List.getElem?_set_ne (Ne.symm h.1), rstE_out h.2]
theorem rstE_in {δ0 : DEnv} {i : Nat} {c : Cell} : ∀ {vs : List Nat}, i ∈ vs -> (rstE δ0 δ vs)[i]? = some c -> c = δ0.getD i .emp
  | v :: vs, h, e => by
    have e : ((rstE δ0 δ vs).set v (δ0.getD v .emp))[i]? = some c := e
    rcases set_get e with ⟨h1, h2, _⟩ | ⟨h1, h2⟩
    · rw [h1]; exact h2
    · rcases List.mem_cons.mp h with z | z
      · exact absurd z h1
      · exact rstE_in z h2
/-- behind a comprehension: its own names hold what they held -/
theorem Rel.unwipe {F1 H1 : Hp} {δ1 : DEnv} {vs : List Nat} (R : Rel K x F (L2.wipe σ vs) H δ) (R1 : Rel K x F1 σ H1 δ1) (s : Same F1 F) (hp : vs.all (plainAt δ1) = true) : Rel K x F σ H (rstE δ1 δ vs) := by
  have pl : ∀ i ∈ vs, ∃ c, δ1[i]? = some c ∧ c.isOwn = false := fun i hi => by
    have z := List.all_eq_true.mp hp i hi
    unfold plainAt at z
    split at z
    · rename_i c q; exact ⟨c, q, by simpa using z⟩
    · cases z
  have key : ∀ {i : Nat} {c : Cell}, (rstE δ1 δ vs)[i]? = some c -> (i ∉ vs ∧ δ[i]? = some c ∧ (L2.wipe σ vs)[i]? = σ[i]?) ∨ (i ∈ vs ∧ δ1[i]? = some c ∧ c.isOwn = false) := fun {i c} h => by
    by_cases z : i ∈ vs
    · obtain ⟨c', h1, h2⟩ := pl i z
      have e := rstE_in z h
      rw [List.getD_eq_getElem?_getD, h1] at e
      have e : c = c' := e
      subst e
      exact .inr ⟨z, h1, h2⟩
    · exact .inl ⟨z, by rw [rstE_out z] at h; exact h, wipe_out z⟩
  have own : ∀ {i : Nat} {c : Cell}, (rstE δ1 δ vs)[i]? = some c -> c.isOwn = true -> i ∉ vs ∧ δ[i]? = some c ∧ (L2.wipe σ vs)[i]? = σ[i]? := fun {i c} h o => by
    rcases key h with z | ⟨_, _, z⟩
    · exact z
    · rw [o] at z; cases z
  refine ⟨by rw [rstE_length, ← R.len, wipe_length], R.sub, R.frm, R.f0, R.ext, fun i c h => ?_, fun i c a h o w => ?_, fun i j c e a nij h1 o1 h2 o2 w => ?_, fun p hp => ?_, fun i d h => ?_⟩
  · rcases key h with ⟨_, h1, h2⟩ | ⟨_, h1, h2⟩
    · rw [← h2]; exact R.slot i c h1
    · have hs := R1.slot i c h1
      cases c with
      | emp => trivial
      | pure d => obtain ⟨v, e1, e2⟩ := hs; exact ⟨v, e1, e2.mono s⟩
      | own d => cases h2
      | inp d => cases h2
  · obtain ⟨_, h1, h2⟩ := own h o
    rw [← h2] at w; exact R.own i c a h1 o w
  · obtain ⟨_, g1, g2⟩ := own h1 o1
    obtain ⟨_, g3, g4⟩ := own h2 o2
    rw [← g2] at w
    rw [← g4]
    exact R.sep i j c e a nij g1 o1 g3 o2 w
  · obtain ⟨h1, d, h2⟩ := R.par p hp
    obtain ⟨_, d1, g2⟩ := R1.par p hp
    have z : p.1 ∉ vs := fun z => by
      obtain ⟨c, e1, e2⟩ := pl _ z
      rw [g2] at e1; cases e1; cases e2
    exact ⟨by rw [← wipe_out z]; exact h1, d, by rw [rstE_out z]; exact h2⟩
  · rcases key h with ⟨_, h1, h2⟩ | ⟨_, _, h2⟩
    · rw [← h2]; exact R.inp i d h1
    · cases h2

/-! ### an object beside: a comprehension's list -/
/-- at D an object that nothing of the state speaks of -/
structure Beside (x : Fx) (F H : Hp) (σ : L2.St) (δ : DEnv) (p : Addr) (o : HO) : Prop where
  at_ : H p = some o
  nF : F p = none
  nG : x.G p = none
  ns : ∀ (i : Nat) (c : Cell), δ[i]? = some c -> c.isOwn = true -> σ[i]? ≠ some (some (V.ref p))
abbrev Fx.with (x : Fx) (p : Addr) (o : HO) : Fx := { x with G := upd x.G p o }
theorem Rel.addG (R : Rel K x F σ H δ) {p : Addr} {o : HO} (b : Beside x F H σ δ p o) : Rel K (x.with p o) F σ H δ :=
  ⟨R.len, R.sub, fun a u h => by
    have h : upd x.G p o a = some u := h
    by_cases z : a = p
    · subst z; rw [upd_same] at h; cases h; exact b.at_
    · rw [upd_ne z] at h; exact R.frm _ _ h, R.f0, fun a h => by
    rcases R.ext a h with z | z
    · exact .inl z
    · refine .inr ?_
      show upd x.G p o a = none
      rw [upd_ne]
      · exact z
      · rintro rfl; exact h b.nF, R.slot, fun i c a h1 h2 h3 => by
    obtain ⟨z1, z2⟩ := R.own i c a h1 h2 h3
    refine ⟨z1, ?_⟩
    show upd x.G p o a = none
    rw [upd_ne]
    · exact z2
    · rintro rfl; exact b.ns i c h1 h2 h3, R.sep, R.par, R.inp⟩
theorem Rel.delG {p : Addr} {o : HO} (R : Rel K (x.with p o) F σ H δ) (n0 : x.F0 p = none) (nG : x.G p = none) : Rel K x F σ H δ ∧ Beside x F H σ δ p o := by
  have hp : H p = some o := R.frm p o upd_same
  have nF : F p = none := by
    cases w : F p with
    | none => rfl
    | some u =>
      rcases R.ext p (by rw [w]; exact fun z => by cases z) with z | z
      · exact absurd n0 z
      · have z : upd x.G p o p = none := z
        rw [upd_same] at z; cases z
  have ow : ∀ (i : Nat) (c : Cell) (a : Addr), δ[i]? = some c -> c.isOwn = true -> σ[i]? = some (some (V.ref a)) -> a ≠ p ∧ F a = none ∧ x.G a = none := fun i c a h1 h2 h3 => by
    obtain ⟨z1, z2⟩ := R.own i c a h1 h2 h3
    have z2 : upd x.G p o a = none := z2
    have ne : a ≠ p := by rintro rfl; rw [upd_same] at z2; cases z2
    rw [upd_ne ne] at z2
    exact ⟨ne, z1, z2⟩
  refine ⟨⟨R.len, R.sub, fun a u h => ?_, R.f0, fun a h => ?_, R.slot, fun i c a h1 h2 h3 => (ow i c a h1 h2 h3).2, R.sep, R.par, R.inp⟩, hp, nF, nG, fun i c h1 h2 h3 => (ow i c p h1 h2 h3).1 rfl⟩
  · refine R.frm a u ?_
    show upd x.G p o a = some u
    rw [upd_ne]
    · exact h
    · rintro rfl; rw [nG] at h; cases h
  · rcases R.ext a h with z | z
    · exact .inl z
    · have z : upd x.G p o a = none := z
      by_cases w : a = p
      · subst w; rw [upd_same] at z; cases z
      · rw [upd_ne w] at z; exact .inr z
/-- the object beside is changed -/
theorem Rel.updB (R : Rel K x F σ H δ) {p : Addr} {o o' : HO} (b : Beside x F H σ δ p o) : Rel K x F σ (upd H p o') δ ∧ Beside x F (upd H p o') σ δ p o' :=
  ⟨⟨R.len, same_updR R.sub b.nF, same_updR R.frm b.nG, R.f0, R.ext, fun i c h => (R.slot i c h).mono (Same.refl _) fun a u oc z w => by
    rw [upd_ne]
    · exact w
    · rintro rfl; exact b.ns i c h oc z, R.own, R.sep, R.par, R.inp⟩, upd_same, b.nF, b.nG, b.ns⟩
end
end DE

/-! DE12: targets, what is walked, comprehensions: the rules. -/
namespace DE
open PySem PySem.Spec PyProof.Rows L2
section
variable (K : PySem.W.Frag) (Γ : Calls) (gl : Str -> Option D) (W : WX)
def tG (t : CT) : TG := fun v σ H Q => ∃ x F δ d δ', Rel K x F σ H δ ∧ Dat K F v d ∧ asgD t d δ = some δ' ∧ ∀ σ', Rel K x F σ' H δ' -> (∀ j, j ∉ t.slots -> σ'[j]? = σ[j]?) -> σ'.length = σ.length -> Q σ' H
def tGs (ts : List CT) : TGs := fun vs σ H Q => ∃ x F δ ds δ', Rel K x F σ H δ ∧ DatL K F vs ds ∧ asgDs ts ds δ = some δ' ∧ ∀ σ', Rel K x F σ' H δ' -> (∀ j, j ∉ slotsOf ts -> σ'[j]? = σ[j]?) -> σ'.length = σ.length -> Q σ' H
structure ItOk (J : It) (F : Hp) (ds : List D) : Prop where
  go : ∀ i H, Same F H -> i < ds.length -> J.go i H
  stop : ∀ H, Same F H -> J.stop ds.length H
  yld : ∀ i H v H' F1, Same F F1 -> Same F1 H -> i < ds.length -> J.yld i H v H' -> ∃ F2 d, Grw F1 H F2 H' ∧ ds[i]? = some d ∧ Dat K F2 v d
def tI (c : CI) : TI := fun σ H R => ∃ x F δ, Rel K x F σ H δ ∧ PostG K x σ W (fun F' _ _ J ds => ItOk K J F' ds) (evalI Γ gl c δ) F R
def tC' (c : CO) : TT := fun σ H Q => ∃ x F δ, Rel K x F σ H δ ∧ PostG K x σ W RB (evalC Γ gl c δ) F Q
end
theorem PG.imp {X : Cx} {e : Expr} {t t' : TG} (h : PG X e t) (i : ∀ v σ H Q, t' v σ H Q -> t v σ H Q) : PG X e t' := ⟨fun pins s σ H v u Q I r q => h.run pins s σ H v u Q I r (i _ _ _ _ q)⟩
theorem PGs.imp {X : Cx} {e : List Expr} {t t' : TGs} (h : PGs X e t) (i : ∀ v σ H Q, t' v σ H Q -> t v σ H Q) : PGs X e t' := ⟨fun pins s σ H v u Q I r q => h.run pins s σ H v u Q I r (i _ _ _ _ q)⟩
section
variable {X : Cx} {Γ : Calls} {gl : Str -> Option D} {W : WX} {a b d : Expr} {ca cb cd : CE} {pos : Pos} {es : List Expr} {ces : CEs}
theorem snd_nm {i : Nat} {y : Str} (nd : X.N.Nodup) (hN : X.N[i]? = some y) (hl : Loc X.env.scope y) (hf : X.fn y = true ∨ X.env.scope.names.lookup y = some .local) : PG X (.Name y pos) (tG X.K (.nm i)) :=
  PG.imp (pg_name nd hN hl hf) fun v σ H Q ⟨x, F, δ, d, δ', R, hd, e, q⟩ => by
    simp only [asgD] at e
    cases z : δ[i]? with
    | none => simp only [z] at e; cases e
    | some c =>
      have hσ : ∀ j, j ∉ (CT.nm i).slots -> (σ.set i (some v))[j]? = σ[j]? := fun j hj => by
        rw [List.getElem?_set_ne]
        rintro rfl; exact hj (by simp [CT.slots])
      cases c with
      | inp _ => simp only [z] at e; cases e
      | _ => simp only [z] at e; cases e; exact q _ (R.setPure z (fun _ w => by cases w) hd) hσ List.length_set
theorem snd_gnil : PGs X [] (tGs X.K []) :=
  PGs.imp pgs_nil fun vs σ H Q ⟨x, F, δ, ds, δ', R, hd, e, q⟩ => by
    cases hd with
    | nil => simp only [asgDs] at e; cases e; exact ⟨rfl, q σ R (fun _ _ => rfl) rfl⟩
    | cons _ _ => simp only [asgDs] at e; cases e
theorem assign_each {e : Expr} {es : List Expr} {env : Env} (h : noStar e = true) : assignEach (e :: es) env = (false, assign e env) :: assignEach es env := by
  cases e <;> first | (simp [noStar] at h; done) | simp only [assignEach]
theorem snd_gcons {e : Expr} {t : CT} {ts : List CT} (hs : noStar e = true) (h1 : PG X e (tG X.K t)) (h2 : PGs X es (tGs X.K ts)) : PGs X (e :: es) (tGs X.K (t :: ts)) :=
  PGs.imp (pgs_cons h1 h2 (by rw [assign_each hs]; rfl)) fun vs σ H Q ⟨x, F, δ, ds, δ', R, hd, e, q⟩ => by
    cases hd with
    | nil => simp only [asgDs] at e; cases e
    | @cons v vs d ds hv hr =>
      simp only [asgDs] at e
      cases z : asgD t d δ with
      | none => simp only [z] at e; cases e
      | some δ1 =>
        simp only [z] at e
        refine ⟨v, vs, rfl, x, F, δ, d, δ1, R, hv, z, fun σ1 R1 k1 l1 => ⟨x, F, δ1, ds, δ', R1, hr, e, fun σ2 R2 k2 l2 => q σ2 R2 (fun j hj => ?_) (l2.trans l1)⟩⟩
        simp only [slotsOf, List.mem_append, not_or] at hj
        rw [k2 j hj.2, k1 j hj.1]
theorem assignEach_star : ∀ {es : List Expr} {env : Env}, es.all noStar = true -> (assignEach es env).length = es.length ∧ (assignEach es env).findIdx? (·.1) = none
  | [], env, _ => by simp only [assignEach]; exact ⟨rfl, rfl⟩
  | e :: r, env, h => by
    rw [List.all_cons, Bool.and_eq_true] at h
    obtain ⟨h1, h2⟩ := assignEach_star (es := r) (env := env) h.2
    rw [assign_each h.1]
    exact ⟨by rw [List.length_cons, List.length_cons, h1], by rw [List.findIdx?_cons, h2]; rfl⟩
theorem asgDs_len : ∀ {ts : List CT} {ds : List D} {δ δ' : DEnv}, asgDs ts ds δ = some δ' -> ts.length = ds.length
  | [], [], _, _, _ => rfl
  | [], _ :: _, _, _, h => by simp only [asgDs] at h; cases h
  | _ :: _, [], _, _, h => by simp only [asgDs] at h; cases h
  | t :: ts, d :: ds, δ, δ', h => by
    simp only [asgDs] at h
    cases z : asgD t d δ with
    | none => simp only [z] at h; cases h
    | some δ1 => simp only [z] at h; rw [List.length_cons, List.length_cons, asgDs_len h]
theorem snd_gtup {k : Nat} {ts : List CT} (hc : X.calm = true) (hs : es.all noStar = true) (hl : ts.length = es.length) (h : PGs X es (tGs X.K ts)) : PG X (.Tuple es k pos) (tG X.K (.tp ts)) :=
  PG.imp (pg_tup hc h (n := es.length) (assignEach_star hs).1 (assignEach_star hs).2) fun v σ H Q ⟨x, F, δ, d, δ', R, hd, e, q⟩ => by
    cases d with
    | tuple ds =>
      cases hd with
      | tup hq ht =>
        simp only [asgD] at e
        refine ⟨_, _, rfl, sqT_mono R.sub hq.1, by rw [ht.length, ← hl, asgDs_len e], x, F, δ, ds, δ', R, ht, e, fun σ' R' k' l' => q σ' R' (fun j hj => k' j (by simpa [CT.slots] using hj)) l'⟩
    | _ => simp only [asgD] at e; cases e

/-! ### what is walked -/
theorem it_list {K : PySem.W.Frag} {F : Hp} {a : Addr} {xs : List V} {ds : List D} (h : SqL K F a xs) (t : DatL K F xs ds) : ItOk K (Itl K a) F ds where
  go := fun i H s hi => by
    have hi' : i < xs.length := by rw [t.length]; exact hi
    exact ⟨xs, xs[i], sqL_mono s h, List.getElem?_eq_getElem hi'⟩
  stop := fun H s => ⟨xs, sqL_mono s h, by rw [t.length]; exact Nat.le_refl _⟩
  yld := fun i H v H' F1 s1 s2 hi y => by
    obtain ⟨rfl, y⟩ := y
    have e := y xs (sqL_mono (s1.trans s2) h)
    obtain ⟨d, e1, e2⟩ := t.getV e
    exact ⟨F1, d, Grw.refl s2, e1, e2.mono s1⟩
theorem it_tup {K : PySem.W.Frag} {F : Hp} {a : Addr} {xs : List V} {ds : List D} (h : SqT K F a xs) (t : DatL K F xs ds) : ItOk K (Itt K a) F ds where
  go := fun i H s hi => by
    have hi' : i < xs.length := by rw [t.length]; exact hi
    exact ⟨xs, xs[i], sqT_mono s h, List.getElem?_eq_getElem hi'⟩
  stop := fun H s => ⟨xs, sqT_mono s h, by rw [t.length]; exact Nat.le_refl _⟩
  yld := fun i H v H' F1 s1 s2 hi y => by
    obtain ⟨rfl, y⟩ := y
    have e := y xs (sqT_mono (s1.trans s2) h)
    obtain ⟨d, e1, e2⟩ := t.getV e
    exact ⟨F1, d, Grw.refl s2, e1, e2.mono s1⟩
theorem it_str {K : PySem.W.Frag} {F : Hp} (z : Str) : ItOk K (Its z) F (z.cps.toList.map fun c => .str ⟨#[c]⟩) where
  go := fun i H s hi => by show i < z.cps.size; simpa using hi
  stop := fun H s => by show z.cps.size ≤ _; simp
  yld := fun i H v H' F1 s1 s2 hi y => by
    obtain ⟨rfl, c, e, rfl⟩ := y
    refine ⟨F1, .str ⟨#[c]⟩, Grw.refl s2, ?_, .str _⟩
    rw [List.getElem?_map, Array.getElem?_toList, e]; rfl
theorem it_rng {K : PySem.W.Frag} {F : Hp} (lo hi : Int) : ItOk K (Itr lo (hi - lo).toNat) F (rngD lo hi) where
  go := fun i H s h => by
    show i < (hi - lo).toNat
    unfold rngD at h
    rw [List.length_map, List.length_range] at h
    exact h
  stop := fun H s => by
    show (hi - lo).toNat ≤ _
    unfold rngD
    rw [List.length_map, List.length_range]
    exact Nat.le_refl _
  yld := fun i H v H' F1 s1 s2 h y => by
    obtain ⟨rfl, rfl⟩ := y
    refine ⟨F1, .int (lo + i), Grw.refl s2, ?_, .int _⟩
    have h : i < (hi - lo).toNat := by
      unfold rngD at h
      rw [List.length_map, List.length_range] at h
      exact h
    unfold rngD
    rw [List.getElem?_map, List.getElem?_range h]; rfl
theorem it_zip {K : PySem.W.Frag} {F : Hp} {a b : Addr} {xs ys : List V} {ds es : List D} (h : SqT K F a xs) (t : DatL K F xs ds) (h2 : SqT K F b ys) (t2 : DatL K F ys es) : ItOk K (ItzF K a b) F (zipD ds es) where
  go := fun i H s hi => by
    unfold zipD at hi
    rw [List.length_map, List.length_zip] at hi
    have l1 := t.length
    have l2 := t2.length
    exact ⟨xs, ys, _, _, sqT_mono s h, sqT_mono s h2, List.getElem?_eq_getElem (by omega : i < xs.length), List.getElem?_eq_getElem (by omega : i < ys.length)⟩
  stop := fun H s => by
    refine ⟨xs, ys, sqT_mono s h, sqT_mono s h2, ?_⟩
    unfold zipD
    rw [List.length_map, List.length_zip]
    have l1 := t.length
    have l2 := t2.length
    omega
  yld := fun i H v H' F1 s1 s2 hi y => by
    obtain ⟨T, o, x, y, rfl, nT, ho, rfl, e1, e2⟩ := y
    obtain ⟨d, g1, g2⟩ := t.getV (e1 xs (sqT_mono (s1.trans s2) h))
    obtain ⟨e, g3, g4⟩ := t2.getV (e2 ys (sqT_mono (s1.trans s2) h2))
    have nF := s2.free nT
    refine ⟨upd F1 T (.frz o (.tup [x, y])), .tuple [d, e], Grw.still s2 nT, ?_, .tup ⟨.inl (.inr ⟨o, upd_same⟩), .inl ⟨o, _, upd_same, ho⟩⟩ (.cons (g2.mono (s1.trans (same_upd nF))) (.cons (g4.mono (s1.trans (same_upd nF))) .nil))⟩
    unfold zipD
    have z : (ds.zip es)[i]? = some (d, e) := List.getElem?_zip_eq_some.mpr ⟨g1, g3⟩
    rw [List.getElem?_map, z]; rfl
variable {tg : Expr}
theorem snd_i_zip {p : Pos} (ht : isTup tg = true) (hg : Gl X "zip") (hm : X.mg "zip" = none) (hs : noStar a = true) (hs2 : noStar b = true) (ha : PE X a (tE X.K Γ gl W ca)) (hb : PE X b (tE X.K Γ gl W cb)) : PI X tg (.Call (.Name "zip" p) [a, b] [] pos) (tI X.K Γ gl W (.zp ca cb)) := by
  cases tg with
  | Tuple elts kk tpos =>
    refine ⟨fun pins s σ H R I h => ?_⟩
    refine (pi_zipF hg hm (pa_cons ha (pa_cons hb pa_nil (noStar_each hs2)) (noStar_each hs)) (noStar_each hs) (plainStar (by rw [List.all_cons, hs2]; rfl))).run pins s σ H R I ?_
    obtain ⟨x, F, δ, Rl, pp⟩ := h
    unfold evalI at pp
    refine ⟨x, F, δ, Rl, pp.bind fun r δ1 F1 H1 v R1 s1 rv p1 => ?_⟩
    obtain ⟨F2, R2, s2, rv2⟩ := R1.settle rv
    refine ⟨x, F2, δ1, R2, (PostG.base s2 p1).bind fun r2 δ2 F3 H3 w R3 s3 rv3 p3 => ?_⟩
    have rv1' := rv2.stay (δ' := δ2) (H' := H3) s3
    cases e1 : rd δ2 (settle r) with
    | none => simp only [e1] at p3; exact p3.elim
    | some d =>
      cases e2 : rd δ2 r2 with
      | none => cases d <;> (simp only [e1, e2] at p3; exact p3.elim)
      | some e =>
        have hd := R3.read rv1' e1
        have he := R3.read rv3 e2
        cases d with
        | tuple ds => cases e with
          | tuple es =>
            simp only [e1, e2] at p3
            obtain ⟨a1, xs, rfl, _, _, D1⟩ := hd.tup R3.sub
            obtain ⟨b1, ys, rfl, _, _, D2⟩ := he.tup R3.sub
            cases D1 with
            | @tup _ xs1 _ q1 t1 =>
              cases D2 with
              | @tup _ ys1 _ q2 t2 =>
                exact ⟨a1, b1, xs1, ys1, rfl, sqT_mono R3.sub q1.1, sqT_mono R3.sub q2.1, p3 F3 H3 _ R3 (Same.refl _) (it_zip q1.1 t1 q2.1 t2)⟩
          | _ => simp only [e1, e2] at p3; exact p3.elim
        | _ => cases e <;> (simp only [e1, e2] at p3; exact p3.elim)
  | _ => cases ht
theorem snd_i_val (he : PE X a (tE X.K Γ gl W ca)) : PI X tg a (tI X.K Γ gl W (.val ca)) := by
  refine ⟨fun pins s σ H R I h => ?_⟩
  obtain ⟨x, F, δ, Rl, p⟩ := h
  unfold evalI at p
  cases e1 : evalE Γ gl ca δ with
  | no => rw [e1] at p; exact p.elim
  | ex e δ1 => rw [e1] at p; exact (pi_list he).run pins s σ H R I ⟨x, F, δ, Rl, by rw [e1]; exact p⟩
  | ok r δ1 =>
    rw [e1] at p
    simp only [Out.bind] at p
    cases e2 : esc r δ1 with
    | no => rw [e2] at p; exact p.elim
    | ex e δ2 => exact absurd e2 esc_nex
    | ok d δ2 =>
      rw [e2] at p
      simp only [Out.bind] at p
      cases d with
      | list ds =>
        refine (pi_list he).run pins s σ H R I ⟨x, F, δ, Rl, ?_⟩
        rw [e1]
        intro F1 H1 v R1 s1 rv
        obtain ⟨F2, R2, s2, hd⟩ := R1.esc rv e2
        cases hd with
        | lst hq ht => exact ⟨_, rfl, ⟨_, sqL_mono R2.sub hq⟩, p F2 H1 _ R2 (s1.trans s2) (it_list hq ht)⟩
      | tuple ds =>
        refine (pi_tup he).run pins s σ H R I ⟨x, F, δ, Rl, ?_⟩
        rw [e1]
        intro F1 H1 v R1 s1 rv
        obtain ⟨F2, R2, s2, hd⟩ := R1.esc rv e2
        cases hd with
        | tup hq ht => exact ⟨_, rfl, ⟨_, sqT_mono R2.sub hq.1⟩, p F2 H1 _ R2 (s1.trans s2) (it_tup hq.1 ht)⟩
      | str z =>
        refine (pi_str he).run pins s σ H R I ⟨x, F, δ, Rl, ?_⟩
        rw [e1]
        intro F1 H1 v R1 s1 rv
        obtain ⟨F2, R2, s2, hd⟩ := R1.esc rv e2
        cases hd
        exact ⟨z, rfl, p F2 H1 _ R2 (s1.trans s2) (it_str z)⟩
      | _ => exact p.elim
theorem rngOk_of {i : Int} (h : rngOk i = true) : -(2 ^ 62) ≤ i ∧ i < 2 ^ 62 := by
  unfold rngOk at h
  have z := sizeB_iff.mp h
  exact ⟨by have := z.1; omega, by have := z.2; omega⟩
theorem snd_i_rng1 {p : Pos} (hg : Gl X "range") (hm : X.mg "range" = none) (hs : noStar a = true) (ha : PE X a (tE X.K Γ gl W ca)) : PI X tg (.Call (.Name "range" p) [a] [] pos) (tI X.K Γ gl W (.rng1 ca)) := by
  refine ⟨fun pins s σ H R I h => ?_⟩
  refine (pi_range1 hg hm (pa_cons ha pa_nil (noStar_each hs)) (by rw [noStar_each hs]; simp only [starEach])).run pins s σ H R I ?_
  obtain ⟨x, F, δ, Rl, pp⟩ := h
  unfold evalI at pp
  refine ⟨x, F, δ, Rl, pp.bind fun r δ1 F1 H1 v R1 s1 rv p1 => ?_⟩
  unfold rdTo at p1
  cases e1 : rd δ1 r with
  | none => simp only [e1] at p1; exact p1.elim
  | some d =>
    simp only [e1] at p1
    have hd := R1.read rv e1
    cases d with
    | int i =>
      obtain rfl := hd.int
      simp only at p1
      split at p1
      · rename_i ok
        obtain ⟨h1, h2⟩ := rngOk_of ok
        refine ⟨i, rfl, h1, h2, p1 F1 H1 _ R1 (Same.refl _) ?_⟩
        have z := it_rng (K := X.K) (F := F1) 0 i
        rw [Int.sub_zero] at z
        exact z
      · exact p1.elim
    | _ => exact p1.elim
theorem snd_i_rng2 {p : Pos} (hg : Gl X "range") (hm : X.mg "range" = none) (hs : noStar a = true) (hs2 : noStar b = true) (ha : PE X a (tE X.K Γ gl W ca)) (hb : PE X b (tE X.K Γ gl W cb)) : PI X tg (.Call (.Name "range" p) [a, b] [] pos) (tI X.K Γ gl W (.rng2 ca cb)) := by
  refine ⟨fun pins s σ H R I h => ?_⟩
  refine (pi_range2 hg hm (pa_cons ha (pa_cons hb pa_nil (noStar_each hs2)) (noStar_each hs)) (by rw [noStar_each hs, noStar_each hs2]; simp only [starEach]) (by rw [noStar_each hs2]; simp only [starEach])).run pins s σ H R I ?_
  obtain ⟨x, F, δ, Rl, pp⟩ := h
  unfold evalI at pp
  refine ⟨x, F, δ, Rl, pp.bind fun r δ1 F1 H1 v R1 s1 rv p1 => ?_⟩
  obtain ⟨F2, R2, s2, rv2⟩ := R1.settle rv
  refine ⟨x, F2, δ1, R2, (PostG.base s2 p1).bind fun r2 δ2 F3 H3 w R3 s3 rv3 p3 => ?_⟩
  have rv1' := rv2.stay (δ' := δ2) (H' := H3) s3
  cases e1 : rd δ2 (settle r) with
  | none => simp only [e1] at p3; exact p3.elim
  | some d =>
    cases e2 : rd δ2 r2 with
    | none => cases d <;> (simp only [e1, e2] at p3; exact p3.elim)
    | some e =>
      have hd := R3.read rv1' e1
      have he := R3.read rv3 e2
      cases d with
      | int i => cases e with
        | int j =>
          simp only [e1, e2] at p3
          obtain rfl := hd.int
          obtain rfl := he.int
          split at p3
          · rename_i ok
            rw [Bool.and_eq_true] at ok
            obtain ⟨h1, h2⟩ := rngOk_of ok.1
            obtain ⟨h3, h4⟩ := rngOk_of ok.2
            exact ⟨i, j, rfl, ⟨h1, h2, h3, h4⟩, p3 F3 H3 _ R3 (Same.refl _) (it_rng i j)⟩
          · exact p3.elim
        | _ => simp only [e1, e2] at p3; exact p3.elim
      | _ => simp only [e1, e2] at p3; exact p3.elim

/-! ### a comprehension -/
theorem wipe_eq {σ σ' : L2.St} {vs : List Nat} (hl : σ'.length = σ.length) (h : ∀ j, j ∉ vs -> σ'[j]? = σ[j]?) : L2.wipe σ' vs = L2.wipe σ vs := by
  have wn : ∀ (τ : L2.St) (i : Nat), i ∈ vs -> i < τ.length -> (L2.wipe τ vs)[i]? = some none := by
    intro τ i
    clear h
    induction vs with
    | nil => intro h; cases h
    | cons v r ih =>
      intro hm hlt
      show ((L2.wipe τ r).set v none)[i]? = _
      by_cases z : i = v
      · subst z; rw [List.getElem?_set_self (by rw [wipe_length]; exact hlt)]
      · rw [List.getElem?_set_ne (Ne.symm z)]
        exact ih ((List.mem_cons.mp hm).resolve_left z) hlt
  apply List.ext_getElem?
  intro i
  by_cases z : i ∈ vs
  · by_cases q : i < σ.length
    · rw [wn σ i z q, wn σ' i z (by omega)]
    · rw [List.getElem?_eq_none (by rw [wipe_length]; omega), List.getElem?_eq_none (by rw [wipe_length]; omega)]
  · rw [wipe_out z, wipe_out z, h i z]
theorem wipe_idem (σ : L2.St) (vs : List Nat) : L2.wipe (L2.wipe σ vs) vs = L2.wipe σ vs := wipe_eq (wipe_length _ _) fun j hj => wipe_out hj
end
end DE

/-! DE13: comprehensions: the rule. -/
namespace DE
open PySem PySem.Spec PyProof.Rows L2
abbrev W0 : WX := fun _ _ _ _ => False
theorem rstE_own {δ δ1 : DEnv} {vs : List Nat} (hp : vs.all (plainAt δ1) = true) {i : Nat} {c : Cell} (h : (rstE δ1 δ vs)[i]? = some c) (o : c.isOwn = true) : i ∉ vs ∧ δ[i]? = some c := by
  by_cases z : i ∈ vs
  · have w := List.all_eq_true.mp hp i z
    have e := rstE_in z h
    unfold plainAt at w
    split at w
    · rename_i c' q
      rw [List.getD_eq_getElem?_getD, q] at e
      have e : c = c' := e
      subst e
      rw [o] at w; cases w
    · cases w
  · exact ⟨z, by rw [rstE_out z] at h; exact h⟩
theorem Beside.wipe {x : Fx} {F H : Hp} {σ : L2.St} {δ : DEnv} {p : Addr} {o : HO} (b : Beside x F H σ δ p o) (vs : List Nat) : Beside x F H (L2.wipe σ vs) (wipeE δ vs) p o :=
  ⟨b.at_, b.nF, b.nG, fun i c h oc => by
    by_cases z : i ∈ vs
    · have := wipeE_in z h; subst this; cases oc
    · rw [wipeE_out z] at h; rw [wipe_out z]; exact b.ns i c h oc⟩
theorem Beside.grw {x : Fx} {F H F' H' : Hp} {σ : L2.St} {δ : DEnv} {p : Addr} {o : HO} (b : Beside x F H σ δ p o) (g : Grw F H F' H') : Beside x F' H' σ δ p o :=
  ⟨g.h _ _ b.at_, (by
    cases w : F' p with
    | none => rfl
    | some u =>
      have := g.n p b.nF (by rw [w]; exact fun z => by cases z)
      rw [b.at_] at this; cases this), b.nG, b.ns⟩
section
variable {X : Cx} {Γ : Calls} {gl : Str -> Option D} {W : WX}
theorem snd_lc {elt tg iter : Expr} {ifs : List Expr} {scope : Scope} {own : List (Str × Nat)} {pos : Pos} {ce : CE} {ct : CT} {cit : CI} {cco : CO} (hc : X.calm = true) (hN : X.N.Nodup) (hi : PI X tg iter (tI X.K Γ gl W cit)) (ok : BlkOk X.N X.env.scope scope own)
    (hg : ∀ (s : Shared) (H : Hp) (C : Addr) (cl : List (Str × Addr)) (fp : List Addr), PG (X.blk s H scope (compEnvC scope cl C X.env) fp) tg (tG X.K ct))
    (ht : ∀ (s : Shared) (H : Hp) (C : Addr) (cl : List (Str × Addr)) (fp : List Addr), PTs (X.blk s H scope (compEnvC scope cl C X.env) fp) ifs (tC' X.K Γ gl W0 cco))
    (he : ∀ (s : Shared) (H : Hp) (C : Addr) (cl : List (Str × Addr)) (fp : List Addr), PE (X.blk s H scope (compEnvC scope cl C X.env) fp) elt (tE X.K Γ gl W0 ce)) (hs : ∀ z, foldedSetIterable iter X.env z = pure z) (σ : L2.St) (H : Hp) (Q : VK)
    (h : tE X.K Γ gl W (.lc ce ct cit cco (own.map (·.2))) σ H Q) : tLc (tI X.K Γ gl W cit) (tG X.K ct) (tC' X.K Γ gl W0 cco) (tE X.K Γ gl W0 ce) (own.map (·.2)) σ H Q := by
  obtain ⟨x, F, δ, R, p⟩ := h
  unfold evalE at p
  generalize hvs : own.map (·.2) = vs at p ⊢
  refine ⟨x, F, δ, R, p.bind fun ds δ1 F1 H1 J R1 s1 hJ p1 => fun Dd nD => ?_⟩
  by_cases hok : (vs.all (plainAt δ1) && ct.slots.all (vs.contains ·)) = true
  · rw [if_pos hok] at p1
    rw [Bool.and_eq_true] at hok
    obtain ⟨hpl, hsl⟩ := hok
    have hP : ∀ p ∈ x.P, p.1 ∉ vs := fun p hp z => by
      obtain ⟨_, d, h2⟩ := R1.par p hp
      have w := List.all_eq_true.mp hpl p.1 z
      unfold plainAt at w
      rw [h2] at w; cases w
    have hin : ∀ j, j ∈ ct.slots -> j ∈ vs := fun j hj => by simpa using List.all_eq_true.mp hsl j hj
    have n0 : x.F0 Dd = none := R1.f0.free (R1.nF nD)
    have nG : x.G Dd = none := R1.nG nD
    generalize hone : (fun (d : D) (δ : DEnv) => match asgD ct d δ with
          | some δ2 => (evalC Γ gl cco δ2).bind fun b δ3 => if b = true then (evalE Γ gl ce δ3).bind fun r δ4 => (esc r δ4).bind fun y δ5 => Out.ok (some y) (wipeE δ5 vs) else .ok none (wipeE δ3 vs)
          | none => .no) = one at p1
    let Fin : Out (List D) -> Hp -> Prop := fun out F => PostG X.K x σ W (RV X.K x σ) (match out with
        | .ok ys δ2 => .ok (.own (.list ys)) (rstE δ1 δ2 vs)
        | _ => .no) F Q
    have finBase : ∀ {out F F'}, Same F F' -> Fin out F -> Fin out F' := fun {out F F'} s f => PostG.base s f
    refine ⟨fun i m H => ∃ F ys acc δ, Rel X.K x F (L2.wipe σ vs) H δ ∧ Beside x F H (L2.wipe σ vs) δ Dd (.lst acc) ∧ DatL X.K F acc ys ∧ Same F1 F ∧ m = ds.length - i ∧ i ≤ ds.length ∧ Fin (lcLoop one (ds.drop i) ys δ) F,
      ⟨ds.length, F1, [], [], wipeE δ1 vs, (R1.beside _ nD).wipe hP, Beside.wipe ⟨upd_same, R1.nF nD, nG, fun i c h oc z => ?_⟩ vs, .nil, Same.refl _, by omega, Nat.zero_le _, p1⟩, ?_⟩
    · obtain ⟨b, e1, u, e2⟩ := (R1.slot i c h).ownA oc
      rw [z] at e1; cases e1
      rw [nD] at e2; cases e2
    · rintro i m H2 ⟨F2, ys, acc, δ2, R2, b2, hys, s2, rfl, hle, fin⟩
      by_cases hi : i < ds.length
      · refine .inr ⟨hJ.go i H2 (s2.trans R2.sub) hi, fun H' => ∃ m', m' < ds.length - i ∧ ∃ F ys acc δ, Rel X.K x F (L2.wipe σ vs) H' δ ∧ Beside x F H' (L2.wipe σ vs) δ Dd (.lst acc) ∧ DatL X.K F acc ys ∧ Same F1 F ∧ m' = ds.length - (i + 1) ∧ i + 1 ≤ ds.length ∧ Fin (lcLoop one (ds.drop (i + 1)) ys δ) F, fun H' z => z, fun v H3 hy => ?_⟩
        obtain ⟨F3, d, g, ed, hd⟩ := hJ.yld i H2 v H3 F2 s2 R2.sub hi hy
        have edr : ds.drop i = d :: ds.drop (i + 1) := by
          have h1 : ds[i]? = some d := ed
          have h2 := List.drop_eq_getElem_cons hi
          rw [List.getElem?_eq_getElem hi] at h1
          cases h1
          exact h2
        rw [edr] at fin
        replace fin := finBase g.f fin
        simp only [lcLoop] at fin
        have R3 := (R2.grw g).addG (b2.grw g)
        rw [← hone] at fin
        -- the target
        cases e1 : asgD ct d δ2 with
        | none => simp only [e1] at fin; exact fin.elim
        | some δ3 =>
          simp only [e1] at fin
          refine ⟨x.with Dd (.lst acc), F3, δ2, d, δ3, R3, hd, e1, fun σ4 R4 k4 l4 => ?_⟩
          have ew : L2.wipe σ4 vs = L2.wipe σ vs := (wipe_eq l4 fun j hj => k4 j fun z => hj (hin j z)).trans (wipe_idem σ vs)
          refine ⟨ew, x.with Dd (.lst acc), F3, δ3, R4, ?_⟩
          -- the turn's end
          have turn : ∀ {F5 H5 : Hp} {δ5 : DEnv}, Rel X.K (x.with Dd (.lst acc)) F5 σ4 H5 δ5 -> Same F3 F5 -> Rel X.K x F5 σ4 H5 δ5 ∧ Beside x F5 H5 σ4 δ5 Dd (.lst acc) := fun {F5 H5 δ5} R5 _ => R5.delG n0 nG
          cases e2 : evalC Γ gl cco δ3 with
          | no => simp only [e2, Out.bind] at fin; exact fin.elim
          | ex e δ4 => simp only [e2, Out.bind] at fin; exact fin.elim
          | ok bb δ4 =>
            simp only [e2, Out.bind] at fin
            intro F5 H5 b' R5 s5 eb
            obtain rfl : b' = bb := eb
            cases b' with
            | false =>
              rw [if_neg Bool.false_ne_true] at fin ⊢
              simp only at fin
              obtain ⟨R6, b6⟩ := turn R5 s5
              have R7 := R6.wipe hP
              have b7 := b6.wipe vs
              rw [ew] at R7 b7
              have s7 : Same F2 F5 := g.f.trans s5
              exact ⟨ds.length - (i + 1), by omega, F5, ys, acc, _, R7, b7, hys.mono s7, s2.trans s7, rfl, hi, finBase s5 (by rw [← hone]; exact fin)⟩
            | true =>
              rw [if_pos rfl] at fin ⊢
              refine ⟨x.with Dd (.lst acc), F5, δ4, R5, ?_⟩
              cases e3 : evalE Γ gl ce δ4 with
              | no => simp only [e3, Out.bind] at fin; exact fin.elim
              | ex e δ6 => simp only [e3, Out.bind] at fin; exact fin.elim
              | ok r δ6 =>
                simp only [e3, Out.bind] at fin
                intro F6 H6 y R6 s6 rv
                cases e4 : esc r δ6 with
                | no => simp only [e4, Out.bind] at fin; exact fin.elim
                | ex e δ7 => exact absurd e4 esc_nex
                | ok dy δ7 =>
                  simp only [e4, Out.bind] at fin
                  obtain ⟨F7, R7, s7, hdy⟩ := R6.esc rv e4
                  have s37 : Same F3 F7 := s5.trans (s6.trans s7)
                  obtain ⟨R8, b8⟩ := turn R7 s37
                  obtain ⟨R9, b9⟩ := R8.updB (o' := .lst (acc ++ [y])) b8
                  have R10 := R9.wipe hP
                  have b10 := b9.wipe vs
                  rw [ew] at R10 b10
                  have s27 : Same F2 F7 := g.f.trans s37
                  split at fin
                  · rename_i hz
                    exact ⟨acc, b8.at_, by rw [hys.length]; exact hz, ds.length - (i + 1), by omega, F7, ys ++ [dy], acc ++ [y], _, R10, b10, (hys.mono s27).append (.cons hdy .nil), s2.trans s27, rfl, hi, finBase s37 (by rw [← hone]; exact fin)⟩
                  · exact fin.elim
      · have ei : i = ds.length := by omega
        subst ei
        refine .inl ⟨hJ.stop H2 (s2.trans R2.sub), ?_⟩
        rw [List.drop_length] at fin
        simp only [lcLoop] at fin
        exact fin F2 H2 (.ref Dd) (R2.unwipe R1 s2 hpl) (Same.refl _) ⟨Dd, rfl, ⟨acc, b2.at_, hys⟩, b2.nF, nG, fun i c h oc z => by
          obtain ⟨h1, h2⟩ := rstE_own hpl h oc
          exact b2.ns i c h2 oc (by rw [wipe_out h1]; exact z)⟩
  · rw [if_neg hok] at p1
    exact p1.elim
end
end DE

/-! DE14: statements. -/
namespace DE
open PySem PySem.Spec PyProof.Rows L2
def ResF (K : PySem.W.Frag) (x : Fx) (F H : Hp) (σ : L2.St) (δ : DEnv) (v : V) : Cell -> Prop
  | .pure d => ResV K x F H σ δ v (.pure d)
  | .own d => ResV K x F H σ δ v (.own d)
  | _ => False
def PostS (K : PySem.W.Frag) (x : Fx) (W : WX) (out : Out Fl) (F : Hp) (E : Ends) : Prop := match out with
  | .ok .nx δ' => ∀ F' H' σ', Rel K x F' σ' H' δ' -> Same F F' -> E.nx σ' H'
  | .ok .bk δ' => ∀ F' H' σ', Rel K x F' σ' H' δ' -> Same F F' -> E.bk σ' H'
  | .ok .ct δ' => ∀ F' H' σ', Rel K x F' σ' H' δ' -> Same F F' -> E.ct σ' H'
  | .ok (.rt c) δ' => ∀ F' H' σ' v, Rel K x F' σ' H' δ' -> Same F F' -> ResF K x F' H' σ' δ' v c -> E.rt v H'
  | .ex e δ' => ∀ F' H' σ' cls d, Rel K x F' σ' H' δ' -> Same F F' -> ExR K F' H' e cls d -> W cls d σ' H'
  | .no => False
section
variable {α β : Type} {K : PySem.W.Frag} {x : Fx} {σ : L2.St} {W : WX} {Res : Hp -> Hp -> DEnv -> β -> α -> Prop} {F F1 : Hp}
theorem PostS.base {out : Out Fl} {E : Ends} (s : Same F F1) (h : PostS K x W out F E) : PostS K x W out F1 E := by
  cases out with
  | ok r δ => cases r with
    | nx => exact fun F' H' σ' R s' => h F' H' σ' R (s.trans s')
    | bk => exact fun F' H' σ' R s' => h F' H' σ' R (s.trans s')
    | ct => exact fun F' H' σ' R s' => h F' H' σ' R (s.trans s')
    | rt c => exact fun F' H' σ' v R s' r => h F' H' σ' v R (s.trans s') r
  | ex e δ => exact fun F' H' σ' c d R s' r => h F' H' σ' c d R (s.trans s') r
  | no => exact h
theorem PostS.bindE {out : Out α} {k : α -> DEnv -> Out Fl} {E : Ends} {Q1 : β -> Hp -> Prop} (h : PostS K x W (out.bind k) F E)
    (g : ∀ a δ1 F1 H1 v, Rel K x F1 σ H1 δ1 -> Same F F1 -> Res F1 H1 δ1 v a -> PostS K x W (k a δ1) F1 E -> Q1 v H1) : PostG K x σ W Res out F Q1 := by
  cases out with
  | ok a δ1 => exact fun F' H' v R s r => g a δ1 F' H' v R s r (PostS.base s h)
  | ex e δ => exact fun F' H' c d R s r => h F' H' σ c d R s r
  | no => exact h
end
section
variable (K : PySem.W.Frag) (Γ : Calls) (gl : Str -> Option D) (W : WX) (n : Nat)
def tS (c : CS) : TS := fun E σ H => ∃ x F δ, Rel K x F σ H δ ∧ PostS K x W (execS Γ gl n c δ) F E
def tSs (c : CSs) : TS := fun E σ H => ∃ x F δ, Rel K x F σ H δ ∧ PostS K x W (execSs Γ gl n c δ) F E
end
theorem PS.imp {X : Cx} {e : Stmt} {t t' : TS} (h : PS X e t) (i : ∀ E σ H, t' E σ H -> t E σ H) : PS X e t' := ⟨fun pins s σ H E I q => h.run pins s σ H E I (i _ _ _ q)⟩
theorem PSs.imp {X : Cx} {e : List Stmt} {t t' : TS} (h : PSs X e t) (i : ∀ E σ H, t' E σ H -> t E σ H) : PSs X e t' := ⟨fun pins s σ H E I q => h.run pins s σ H E I (i _ _ _ q)⟩
section
variable {K : PySem.W.Frag} {x : Fx} {F H : Hp} {σ : L2.St} {δ : DEnv}
/-- a slot is let go -/
theorem Rel.drop (R : Rel K x F σ H δ) {i : Nat} {d : D} (q : δ[i]? = some (.own d)) : Rel K x F σ H (δ.set i .emp) ∧ ∃ a, σ[i]? = some (some (V.ref a)) ∧ OwnAt K F H a d ∧ F a = none ∧ x.G a = none ∧ ∀ (j : Nat) (c : Cell), (δ.set i .emp)[j]? = some c -> c.isOwn = true -> σ[j]? ≠ some (some (V.ref a)) := by
  obtain ⟨a, hs, ho⟩ : SlotR K F H σ[i]? (.own d) := R.slot i _ q
  obtain ⟨nF, nG⟩ := R.own i _ a q rfl hs
  refine ⟨⟨by rw [List.length_set]; exact R.len, R.sub, R.frm, R.f0, R.ext, fun j c z => ?_, fun j c b z o w => ?_, fun j k c e b njk z1 o1 z2 o2 w => ?_, fun p hp => ?_, fun j e z => ?_⟩, a, hs, ho, nF, nG, fun j c z o w => ?_⟩
  · rcases set_get z with ⟨rfl, rfl, _⟩ | ⟨nj, z⟩
    · trivial
    · exact R.slot j c z
  · rcases set_get z with ⟨rfl, rfl, _⟩ | ⟨nj, z⟩
    · cases o
    · exact R.own j c b z o w
  · rcases set_get z1 with ⟨rfl, rfl, _⟩ | ⟨nj, z1⟩
    · cases o1
    · rcases set_get z2 with ⟨rfl, rfl, _⟩ | ⟨nk, z2⟩
      · cases o2
      · exact R.sep j k c e b njk z1 o1 z2 o2 w
  · obtain ⟨h1, e, h2⟩ := R.par p hp
    refine ⟨h1, e, ?_⟩
    rw [List.getElem?_set_ne]
    · exact h2
    · rintro rfl; rw [q] at h2; cases h2
  · rcases set_get z with ⟨rfl, h, _⟩ | ⟨nj, z⟩
    · cases h
    · exact R.inp j e z
  · rcases set_get z with ⟨rfl, rfl, _⟩ | ⟨nj, z⟩
    · cases o
    · exact R.sep i j (.own d) c a (Ne.symm nj) q rfl z o hs w
theorem tk_nex {r : Rv} {δ δ' : DEnv} {e : Exn} : tk r δ ≠ .ex e δ' := by
  intro h
  cases r with
  | pure d => cases h
  | own d => cases h
  | bor i =>
    simp only [tk] at h
    split at h <;> cases h
/-- a value goes to a name -/
theorem Rel.tk (R : Rel K x F σ H δ) {v : V} {r : Rv} {c : Cell} {δ' : DEnv} (h : ResV K x F H σ δ v r) (e : DE.tk r δ = .ok c δ') : ∃ F', Rel K x F' σ H δ' ∧ Same F F' ∧
    ((∃ d, c = .pure d ∧ Dat K F' v d) ∨ ∃ d, c = .own d ∧ ResV K x F' H σ δ' v (.own d)) := by
  cases r with
  | pure d' => cases e; exact ⟨F, R, Same.refl _, .inl ⟨d', rfl, h⟩⟩
  | own d' => cases e; exact ⟨F, R, Same.refl _, .inr ⟨d', rfl, h⟩⟩
  | bor i =>
    have h : σ[i]? = some (some v) := h
    cases q : δ[i]? with
    | none => simp only [DE.tk, q] at e; cases e
    | some c =>
      simp only [DE.tk, q] at e
      cases c with
      | emp => cases e
      | inp d' => cases e
      | pure d' =>
        cases e
        obtain ⟨w, h1, h2⟩ : SlotR K F H σ[i]? (.pure d') := R.slot i _ q
        rw [h] at h1; cases h1
        exact ⟨F, R, Same.refl _, .inl ⟨d', rfl, h2⟩⟩
      | own d' =>
        cases e
        obtain ⟨F', w, R', s, h1, h2⟩ := R.frzS q
        rw [h] at h1; cases h1
        exact ⟨F', R', s, .inl ⟨d', rfl, h2⟩⟩
end
section
variable {X : Cx} {Γ : Calls} {gl : Str -> Option D} {W : WX} {n : Nat} {a b d : Expr} {ca cb cd : CE} {pos : Pos} {sa sb : List Stmt} {csa csb : CSs} {st : Stmt} {cs : CS}
theorem snd_s_nil : PSs X [] (tSs X.K Γ gl W n .nil) :=
  PSs.imp pss_nil fun E σ H ⟨x, F, δ, R, p⟩ => by
    unfold execSs at p
    exact p F H σ R (Same.refl _)
theorem PostS.seq {K : PySem.W.Frag} {x : Fx} {F : Hp} {out : Out Fl} {k : DEnv -> Out Fl} {E : Ends} {u : L2.St -> Hp -> Prop}
    (h : PostS K x W (out.bind fun f δ1 => match f with
      | .nx => k δ1
      | f => .ok f δ1) F E) (g : ∀ F1 H1 σ1 δ1, Rel K x F1 σ1 H1 δ1 -> PostS K x W (k δ1) F1 E -> u σ1 H1) : PostS K x W out F { E with nx := u } := by
  cases out with
  | no => exact h
  | ex e δ => exact h
  | ok f δ => cases f with
    | nx => exact fun F' H' σ' R s => g F' H' σ' δ R (PostS.base s h)
    | bk => exact h
    | ct => exact h
    | rt c => exact h
theorem snd_s_cons (h1 : PS X st (tS X.K Γ gl W n cs)) (h2 : PSs X sa (tSs X.K Γ gl W n csa)) : PSs X (st :: sa) (tSs X.K Γ gl W n (.cons cs csa)) :=
  PSs.imp (pss_cons h1 h2) fun E σ H ⟨x, F, δ, R, p⟩ => by
    unfold execSs at p
    exact ⟨x, F, δ, R, PostS.seq p fun F1 H1 σ1 δ1 R1 p1 => ⟨x, F1, δ1, R1, p1⟩⟩
theorem snd_s_expr (ha : PE X a (tE X.K Γ gl W ca)) (hs : swapsWith a none pos.line X.env = pure false) : PS X (.Expr a pos) (tS X.K Γ gl W n (.expr ca)) :=
  PS.imp (ps_expr ha hs) fun E σ H ⟨x, F, δ, R, p⟩ => by
    unfold execS at p
    exact ⟨x, F, δ, R, p.bindE fun r δ1 F1 H1 v R1 s1 rv p1 => p1 F1 H1 σ R1 (Same.refl _)⟩
theorem snd_s_pass : PS X (.Pass pos) (tS X.K Γ gl W n .pass) :=
  PS.imp ps_pass fun E σ H ⟨x, F, δ, R, p⟩ => by
    unfold execS at p; exact p F H σ R (Same.refl _)
theorem snd_s_brk : PS X (.Break pos) (tS X.K Γ gl W n .brk) :=
  PS.imp ps_break fun E σ H ⟨x, F, δ, R, p⟩ => by
    unfold execS at p; exact p F H σ R (Same.refl _)
theorem snd_s_cont : PS X (.Continue pos) (tS X.K Γ gl W n .cont) :=
  PS.imp ps_continue fun E σ H ⟨x, F, δ, R, p⟩ => by
    unfold execS at p; exact p F H σ R (Same.refl _)
theorem snd_s_retN : PS X (.Return none pos) (tS X.K Γ gl W n .retN) :=
  PS.imp ps_retN fun E σ H ⟨x, F, δ, R, p⟩ => by
    unfold execS at p; exact p F H σ .non R (Same.refl _) .non
theorem snd_s_ret (ha : PE X a (tE X.K Γ gl W ca)) : PS X (.Return (some a) pos) (tS X.K Γ gl W n (.ret ca)) :=
  PS.imp (ps_ret ha) fun E σ H ⟨x, F, δ, R, p⟩ => by
    unfold execS at p
    refine ⟨x, F, δ, R, p.bindE fun r δ1 F1 H1 v R1 s1 rv p1 => ?_⟩
    cases r with
    | pure d => exact p1 F1 H1 σ v R1 (Same.refl _) rv
    | own d => exact p1 F1 H1 σ v R1 (Same.refl _) rv
    | bor i =>
      have rv : σ[i]? = some (some v) := rv
      simp only [retV] at p1
      cases q : δ1[i]? with
      | none => simp only [q] at p1; exact p1.elim
      | some c =>
        cases c with
        | emp => simp only [q] at p1; exact p1.elim
        | inp _ => simp only [q] at p1; exact p1.elim
        | pure d =>
          simp only [q] at p1
          obtain ⟨w, h1, h2⟩ : SlotR X.K F1 H1 σ[i]? (.pure d) := R1.slot i _ q
          rw [rv] at h1; cases h1
          exact p1 F1 H1 σ v R1 (Same.refl _) h2
        | own d =>
          simp only [q] at p1
          obtain ⟨R2, a, h1, h2⟩ := R1.drop q
          rw [rv] at h1; cases h1
          exact p1 F1 H1 σ _ R2 (Same.refl _) ⟨a, rfl, h2⟩
theorem snd_s_if (hc : PT X a (tT X.K Γ gl W ca)) (ha : PSs X sa (tSs X.K Γ gl W n csa)) (hb : PSs X sb (tSs X.K Γ gl W n csb)) : PS X (.If a sa sb pos) (tS X.K Γ gl W n (.ifs ca csa csb)) :=
  PS.imp (ps_if hc ha hb) fun E σ H ⟨x, F, δ, R, p⟩ => by
    unfold execS at p
    refine ⟨x, F, δ, R, p.bindE fun t δ1 F1 H1 v R1 s1 rv p1 => ?_⟩
    obtain rfl : v = t := rv
    cases v with
    | true => exact ⟨x, F1, δ1, R1, p1⟩
    | false => exact ⟨x, F1, δ1, R1, p1⟩
theorem snd_s_while (hp : PassesOwn (model X.prog X.w) X.A X.env X.xe) (hc : PT X a (tT X.K Γ gl W ca)) (hb : PSs X sa (tSs X.K Γ gl W n csa)) : PS X (.While a sa [] pos) (tS X.K Γ gl W n (.whl ca csa)) :=
  PS.imp (ps_while hp hc hb) fun E σ H ⟨x, F, δ, R, p⟩ => by
    unfold execS at p
    refine ⟨fun m σ H => ∃ F1 δ, Rel X.K x F1 σ H δ ∧ Same F F1 ∧ PostS X.K x W (whileN (evalT Γ gl ca) (execSs Γ gl n csa) m δ) F1 E, ⟨n, F, δ, R, Same.refl _, p⟩, ?_⟩
    clear p R
    rintro m σ H ⟨F1, δ, R, s1, p⟩
    refine ⟨x, F1, δ, R, ?_⟩
    cases m with
    | zero => exact p.elim
    | succ m =>
      unfold whileN at p
      cases e : evalT Γ gl ca δ with
      | no => rw [e] at p; exact p.elim
      | ex ee δ1 => rw [e] at p; exact fun F' H' c d R s r => p F' H' σ c d R s r
      | ok t δ1 =>
        rw [e] at p
        intro F2 H2 t' R2 s2 et
        obtain rfl : t' = t := et
        cases t' with
        | false => exact p F2 H2 σ R2 s2
        | true =>
          refine ⟨fun σ' H' => ∃ F1 δ, Rel X.K x F1 σ' H' δ ∧ Same F F1 ∧ PostS X.K x W (whileN (evalT Γ gl ca) (execSs Γ gl n csa) m δ) F1 E, fun σ' H' z => ⟨m, Nat.lt_succ_self m, z⟩, x, F2, δ1, R2, ?_⟩
          replace p := PostS.base s2 p
          have s02 : Same F F2 := s1.trans s2
          simp only at p
          cases e2 : execSs Γ gl n csa δ1 with
          | no => rw [e2] at p; exact p.elim
          | ex ee δ1 => rw [e2] at p; exact p
          | ok f δ2 =>
            rw [e2] at p
            cases f with
            | nx => exact fun F3 H3 σ3 R3 s3 => ⟨F3, δ2, R3, s02.trans s3, PostS.base s3 p⟩
            | ct => exact fun F3 H3 σ3 R3 s3 => ⟨F3, δ2, R3, s02.trans s3, PostS.base s3 p⟩
            | bk => exact p
            | rt c => exact p
theorem snd_s_for {tg : Expr} {ct : CT} {cit : CI} (hp : PassesOwn (model X.prog X.w) X.A X.env X.xe) (hc : X.calm = true) (hi : PI X tg a (tI X.K Γ gl W cit)) (hg : PG X tg (tG X.K ct)) (hb : PSs X sa (tSs X.K Γ gl W n csa))
    (hs : ∀ x, foldedSetIterable a X.env x = pure x) : PS X (.For tg a sa [] pos) (tS X.K Γ gl W n (.fr ct cit csa)) :=
  PS.imp (ps_for hp hc hi hg hb hs) fun E σ H ⟨x, F, δ, R, p⟩ => by
    unfold execS at p
    refine ⟨x, F, δ, R, p.bindE fun ds δ1 F1 H1 J R1 s1 hJ p1 => ?_⟩
    generalize hbody : forBody ct (execSs Γ gl n csa) = body at p1
    refine ⟨fun i m σ H => ∃ F2 δ, Rel X.K x F2 σ H δ ∧ Same F1 F2 ∧ m = ds.length - i ∧ i ≤ ds.length ∧ PostS X.K x W (forLoop body (ds.drop i) δ) F2 E, ⟨ds.length, F1, δ1, R1, Same.refl _, by omega, Nat.zero_le _, p1⟩, ?_⟩
    clear p1 R1 p R
    rintro i m σ H ⟨F2, δ2, R2, s2, rfl, hle, p⟩
    by_cases hi : i < ds.length
    · refine .inr ⟨hJ.go i H (s2.trans R2.sub) hi, fun σ' H' => ∃ m', m' < ds.length - i ∧ ∃ F2 δ, Rel X.K x F2 σ' H' δ ∧ Same F1 F2 ∧ m' = ds.length - (i + 1) ∧ i + 1 ≤ ds.length ∧ PostS X.K x W (forLoop body (ds.drop (i + 1)) δ) F2 E, fun σ' H' z => z, fun v H3 hy => ?_⟩
      obtain ⟨F3, dd, g, ed, hd⟩ := hJ.yld i H v H3 F2 s2 R2.sub hi hy
      have edr : ds.drop i = dd :: ds.drop (i + 1) := by
        have h1 : ds[i]? = some dd := ed
        have h2 := List.drop_eq_getElem_cons hi
        rw [List.getElem?_eq_getElem hi] at h1
        cases h1
        exact h2
      rw [edr] at p
      replace p := PostS.base g.f p
      simp only [forLoop] at p
      have R3 := R2.grw g
      have eb : body dd δ2 = match asgD ct dd δ2 with
        | some δ2 => execSs Γ gl n csa δ2
        | none => Out.no := by rw [← hbody]; rfl
      rw [eb] at p
      cases e1 : asgD ct dd δ2 with
      | none => simp only [e1] at p; exact p.elim
      | some δ3 =>
        simp only [e1] at p
        refine ⟨x, F3, δ2, dd, δ3, R3, hd, e1, fun σ4 R4 k4 l4 => ⟨x, F3, δ3, R4, ?_⟩⟩
        have again : ∀ {F5 H5 : Hp} {σ5 : L2.St} {δ5 : DEnv}, Rel X.K x F5 σ5 H5 δ5 -> Same F3 F5 -> PostS X.K x W (forLoop body (ds.drop (i + 1)) δ5) F3 E -> ∃ m', m' < ds.length - i ∧ ∃ F2 δ, Rel X.K x F2 σ5 H5 δ ∧ Same F1 F2 ∧ m' = ds.length - (i + 1) ∧ i + 1 ≤ ds.length ∧ PostS X.K x W (forLoop body (ds.drop (i + 1)) δ) F2 E :=
          fun {F5 H5 σ5 δ5} R5 s5 p5 => ⟨ds.length - (i + 1), by omega, F5, δ5, R5, s2.trans (g.f.trans s5), rfl, hi, PostS.base s5 p5⟩
        cases e2 : execSs Γ gl n csa δ3 with
        | no => simp only [e2] at p; exact p.elim
        | ex ee δ4 => simp only [e2] at p; exact p
        | ok f δ4 =>
          cases f with
          | nx => simp only [e2] at p; exact fun F5 H5 σ5 R5 s5 => again R5 s5 p
          | ct => simp only [e2] at p; exact fun F5 H5 σ5 R5 s5 => again R5 s5 p
          | bk => simp only [e2] at p; exact p
          | rt c => simp only [e2] at p; exact p
    · have ei : i = ds.length := by omega
      subst ei
      rw [List.drop_length] at p
      simp only [forLoop] at p
      exact .inl ⟨hJ.stop H (s2.trans R2.sub), p F2 H σ R2 (Same.refl _)⟩
/-- a cell's store -/
theorem Rel.asgC {K : PySem.W.Frag} {x : Fx} {F H : Hp} {σ : L2.St} {δ : DEnv} {i : Nat} {c : Cell} {v : V} {E : Ends} (R : Rel K x F σ H δ) (h : (∃ d, c = .pure d ∧ Dat K F v d) ∨ ∃ d, c = .own d ∧ ResV K x F H σ δ v (.own d))
    (p : PostS K x W (DE.asgC i c δ) F E) : E.nx (σ.set i (some v)) H := by
  unfold DE.asgC at p
  have hc : ∀ d, c ≠ .inp d := by
    rintro d rfl
    rcases h with ⟨_, z, _⟩ | ⟨_, z, _⟩ <;> cases z
  have go : ∀ c0, δ[i]? = some c0 -> (∀ d, c0 ≠ .inp d) -> Rel K x F (σ.set i (some v)) H (δ.set i c) := fun c0 q ni => by
    rcases h with ⟨d, rfl, h⟩ | ⟨d, rfl, a, rfl, h1, h2, h3, h4⟩
    · exact R.setPure q ni h
    · exact R.set q ni hc ⟨a, rfl, h1⟩ fun _ b e => by cases e; exact ⟨h2, h3, fun j e _ z o => h4 j e z o⟩
  cases q : δ[i]? with
  | none => simp only [q] at p; exact p.elim
  | some c0 =>
    cases c0 with
    | inp _ => simp only [q] at p; exact p.elim
    | _ => simp only [q] at p; exact p F H _ (go _ q fun _ z => by cases z) (Same.refl _)
theorem asg_post {K : PySem.W.Frag} {x : Fx} {F : Hp} {σ : L2.St} {δ : DEnv} {i : Nat} {E : Ends} (p : PostS K x W (execS Γ gl n (.asg i ca) δ) F E) :
    PostG K x σ W (RV K x σ) (evalE Γ gl ca δ) F (fun v H1 => gName i v σ H1 E.nx) := by
  unfold execS at p
  refine p.bindE fun r δ1 F1 H1 v R1 s1 rv p1 => ?_
  cases e : tk r δ1 with
  | no => rw [e] at p1; exact p1.elim
  | ex ee δ2 => exact absurd e tk_nex
  | ok c δ2 =>
    rw [e] at p1
    simp only [Out.bind] at p1
    obtain ⟨F2, R2, s2, hc⟩ := R1.tk rv e
    exact R2.asgC hc (PostS.base s2 p1)
theorem snd_s_asg {i : Nat} {y : Str} {p : Pos} (nd : X.N.Nodup) (hN : X.N[i]? = some y) (hl : Loc X.env.scope y) (hf : X.fn y = true ∨ X.env.scope.names.lookup y = some .local) (ha : PE X a (tE X.K Γ gl W ca)) (hs : swapsWith a (some (.Name y p)) pos.line X.env = pure false) :
    PS X (.Assign [.Name y p] a pos) (tS X.K Γ gl W n (.asg i ca)) :=
  PS.imp (ps_set nd hN hl ha hs hf) fun E σ H ⟨x, F, δ, R, p⟩ => ⟨x, F, δ, R, asg_post p⟩
end
end DE

/-! DE15: more statements, more tests. -/
namespace DE
open PySem PySem.Spec PyProof.Rows L2
section
variable {X : Cx} {Γ : Calls} {gl : Str -> Option D} {W : WX} {n : Nat} {a b d : Expr} {ca cb cd : CE} {pos : Pos} {sa sb : List Stmt} {csa csb : CSs} {st : Stmt} {cs : CS}
/-! ### tests -/
theorem snd_tbool {c : CE} {σ : L2.St} {H : Hp} {Q : Bool -> Hp -> Prop} (hg : genT c = true) (hb : ∀ δ r δ', evalE Γ gl c δ = .ok r δ' -> ∃ b, r = .pure (.bool b)) (h : tT X.K Γ gl W c σ H Q) :
    tE X.K Γ gl W c σ H fun v H' => ∃ k, v = .bl k ∧ Q k H' := by
  obtain ⟨x, F, δ, R, p⟩ := h
  refine ⟨x, F, δ, R, ?_⟩
  rw [evalT_gen hg] at p
  cases e : evalE Γ gl c δ with
  | no => rw [e] at p; exact p.elim
  | ex ee δ1 => rw [e] at p; exact p
  | ok r δ1 =>
    rw [e] at p
    obtain ⟨b, rfl⟩ := hb _ _ _ e
    intro F' H' v R' s hv
    have hv : Dat X.K F' v (.bool b) := hv
    cases hv
    exact ⟨b, rfl, p F' H' b R' s rfl⟩
theorem cmp2_bool {o p : CmpOp} (δ : DEnv) (r : Rv) (δ' : DEnv) (h : evalE Γ gl (.cmp2 o p ca cb cd) δ = .ok r δ') : ∃ b, r = .pure (.bool b) := by
  unfold evalE at h
  cases e1 : evalE Γ gl ca δ with
  | no => rw [e1] at h; cases h
  | ex e δ1 => rw [e1] at h; cases h
  | ok r1 δ1 =>
    rw [e1] at h
    simp only [Out.bind] at h
    cases e2 : evalE Γ gl cb δ1 with
    | no => rw [e2] at h; cases h
    | ex e δ1 => rw [e2] at h; cases h
    | ok r2 δ2 =>
      rw [e2] at h
      simp only [Out.bind] at h
      split at h
      · split at h
        · cases h; exact ⟨_, rfl⟩
        · cases e3 : evalE Γ gl cd δ2 with
          | no => rw [e3] at h; cases h
          | ex e δ1 => rw [e3] at h; cases h
          | ok r3 δ3 =>
            rw [e3] at h
            simp only [Out.bind, two] at h
            split at h
            · rename_i d1 d2 _ _
              cases e4 : cmpD p d1 d2 with
              | none => rw [e4] at h; cases h
              | some b => rw [e4] at h; cases h; exact ⟨b, rfl⟩
            · cases h
        · cases h
      · cases h
theorem cmp2_read {o p : CmpOp} {σ : L2.St} {H : Hp} {Q : VK} (hp : tE X.K Γ gl W (.cmp2 o p ca cb cd) σ H Q) :
    tChain (rV2 X.K fun d e => (cmpD o d e).map fun b => .pure (.bool b)) (rV2 X.K fun d e => (cmpD p d e).map fun b => .pure (.bool b)) (tE X.K Γ gl W ca) (tE X.K Γ gl W cb) (tE X.K Γ gl W cd) σ H Q := by
  obtain ⟨x, F, δ, R, pp⟩ := hp
  unfold evalE at pp
  refine ⟨x, F, δ, R, pp.bind fun r1 δ1 F1 H1 v R1 s1 rv1 p1 => ?_⟩
  obtain ⟨F2, R2, s2, rv2⟩ := R1.settle rv1
  refine ⟨x, F2, δ1, R2, (p1.base s2).bind fun r2 δ2 F3 H3 w R3 s3 rv3 p3 => ?_⟩
  obtain ⟨F4, R4, s4, rv4⟩ := R3.settle rv3
  replace p3 := p3.base s4
  have rv1' := rv2.stay (δ' := δ2) (H' := H3) (s3.trans s4)
  cases e1 : rd δ2 (settle r1) with
  | none => simp only [e1] at p3; exact p3.elim
  | some d1 =>
    cases e2 : rd δ2 r2 with
    | none => simp only [e1, e2] at p3; exact p3.elim
    | some d2 =>
      simp only [e1, e2] at p3
      cases e3 : cmpD o d1 d2 with
      | none => simp only [e3] at p3; exact p3.elim
      | some bb =>
        refine ⟨F4, d1, d2, .pure (.bool bb), R4.sub, R4.read rv1' e1, R4.read rv4 (by rw [rd_settle]; exact e2), by show Option.map _ (cmpD o d1 d2) = _; rw [e3]; rfl, fun F5 H5 u g n => ?_⟩
        have R5 := R4.grw g
        have hu : u = .bl bb := by
          have n : Dat X.K F5 u (.bool bb) := n
          cases n; rfl
        refine ⟨bb, hu, ?_⟩
        cases bb with
        | false =>
          simp only [e3] at p3
          rw [if_neg Bool.false_ne_true]
          exact p3 F5 H5 _ R5 g.f (.bl _)
        | true =>
          simp only [e3] at p3
          rw [if_pos rfl]
          refine ⟨x, F5, δ2, R5, (p3.base g.f).bind fun r3 δ3 F6 H6 z R6 s6 rv6 p6 => ?_⟩
          exact two_of R6 (rv4.stay (δ' := δ3) (H' := H6) (g.f.trans s6)) rv6 p6
theorem snd_tcmp2 {o p : CmpOp} (hu : X.A.units + 65 < cLine) (hm : lastMarks [o, p] [b, d] = false) (ha : PE X a (tE X.K Γ gl W ca)) (hb : PE X b (tE X.K Γ gl W cb)) (hd : PE X d (tE X.K Γ gl W cd)) :
    PT X (.Compare a [o, p] [b, d] pos) (tT X.K Γ gl W (.cmp2 o p ca cb cd)) :=
  PT.imp (pt_chain (opCmp o hu) (opCmp p hu) ha hb hd hm) fun σ H Q h => cmp2_read (snd_tbool rfl cmp2_bool h)
/-! ### a comprehension's tests -/
theorem PTs.imp {X : Cx} {e : List Expr} {t t' : TT} (h : PTs X e t) (i : ∀ σ H Q, t' σ H Q -> t σ H Q) : PTs X e t' := ⟨fun pins s σ H Q I q => h.run pins s σ H Q I (i _ _ _ q)⟩
theorem snd_ifs_nil : PTs X [] (tC' X.K Γ gl W .non) :=
  PTs.imp pts_nil fun σ H Q ⟨x, F, δ, R, p⟩ => by
    unfold evalC at p; exact p F H true R (Same.refl _) rfl
theorem snd_ifs_one (h : PT X a (tT X.K Γ gl W ca)) : PTs X [a] (tC' X.K Γ gl W (.som ca)) :=
  PTs.imp (pts_one h) fun σ H Q ⟨x, F, δ, R, p⟩ => by
    unfold evalC at p; exact ⟨x, F, δ, R, p⟩
/-! ### a, b = .. -/
theorem sw_no {e : Expr} {l : Nat} {env : Env} {t : Option Expr} (h : noComp e = true) : swapsWith e t l env = pure false := by
  cases e <;> first | (simp [noComp] at h; done) | rfl
theorem sws_no {t : Expr} {e : Expr} {l : Nat} {env : Env} (h : noComp e = true) : swapsWithSole [t] e l env = pure false := by
  show swapsWith e (some t) l env = pure false
  exact sw_no h
theorem swst_no {ts : List Expr} {k : Nat} {p : Pos} {e : Expr} {env : Env} (h : noTup e = true) : swappedStores [.Tuple ts k p] e env = pure none := by
  cases e <;> first | (simp [noTup] at h; done) | rfl
theorem swst_sub {o i : Expr} {p : Pos} {e : Expr} {env : Env} : swappedStores [.Subscript o i p] e env = pure none := rfl
theorem one_each {t : Expr} {env : Env} (h : noStar t = true) : (assignEach [t] env).map (·.2) = [assign t env] := by
  rw [assign_each h]; simp only [assignEach]; rfl
theorem snd_s_asgT {ts : List Expr} {k : Nat} {p : Pos} {ct : CT} (he : noTup a = true) (hc : noComp a = true) (ha : PE X a (tE X.K Γ gl W ca)) (hg : PG X (.Tuple ts k p) (tG X.K ct)) : PS X (.Assign [.Tuple ts k p] a pos) (tS X.K Γ gl W n (.asgT ct ca)) :=
  PS.imp (ps_asg ha hg (sws_no hc) (swst_no he) (one_each rfl)) fun E σ H ⟨x, F, δ, R, pp⟩ => by
    unfold execS at pp
    refine ⟨x, F, δ, R, pp.bindE fun r δ1 F1 H1 v R1 s1 rv p1 => ?_⟩
    cases e : esc r δ1 with
    | no => rw [e] at p1; exact p1.elim
    | ex ee δ2 => exact absurd e esc_nex
    | ok dd δ2 =>
      rw [e] at p1
      simp only [Out.bind] at p1
      obtain ⟨F2, R2, s2, hd⟩ := R1.esc rv e
      replace p1 := PostS.base s2 p1
      cases e2 : asgD ct dd δ2 with
      | none => rw [e2] at p1; exact p1.elim
      | some δ3 =>
        rw [e2] at p1
        exact ⟨x, F2, δ2, dd, δ3, R2, hd, e2, fun σ' R' _ _ => p1 F2 H1 σ' R' (Same.refl _)⟩
/-! ### o[k] = .. -/
theorem asg_sub {o i : Expr} {p : Pos} {env : Env} (h : noSlice i = true) (v : Value) : assign (.Subscript o i p) env v = (do
      let ov ← holding [v] (eval o env)
      let iv ← holding [v, ov] (eval i env)
      standAt p
      holding [v, ov, iv] (setItem ov iv v)
      release [v, ov, iv] []) := by
  cases i <;> first | (simp [noSlice] at h; done) | rfl
/-- o[i] = v of a list or a dict -/
theorem set_lod (hu : X.A.units + 1 < cLine) : PSet X (fun o i v H Q => rSetL o i v H Q ∨ ∃ a H', o = .ref a ∧ DPut H a i v H' ∧ Q H') := by
  intro pins s σ H o i v ov iv u Q I ro ri rv h
  rcases h with h | ⟨a, H', rfl, g, q⟩
  · exact set_list pins s σ H o i v ov iv u Q I ro ri rv h
  · obtain rfl : ov = Value.ref a := ro
    exact d_setItem hu I g ri rv fun s' J => ⟨H', J, q⟩
theorem snd_s_seti {i : Nat} {y : Str} {k : Expr} {ck : CE} {p p2 : Pos} (hu : X.A.units + 1 < cLine) (hN : X.N[i]? = some y) (hv : Vis X.env.scope y) (h1 : (y == ("__debug__" : Str)) = false) (h2 : (y == ("__classdict__" : Str)) = false) (hk : noSlice k = true) (hc : noComp a = true)
    (hK : PE X k (tE X.K Γ gl W ck)) (ha : PE X a (tE X.K Γ gl W ca)) : PS X (.Assign [.Subscript (.Name y p) k p2] a pos) (tS X.K Γ gl W n (.seti i ck ca)) :=
  PS.imp (ps_asg ha (pg_sub (pe_var hN hv h1 h2) hK (set_lod hu) (asg_sub hk)) (sws_no hc) swst_sub (one_each rfl)) fun E σ H ⟨x, F, δ, R, pp⟩ => by
    unfold execS at pp
    refine ⟨x, F, δ, R, pp.bindE fun r δ1 F1 H1 v R1 s1 rv p1 => ?_⟩
    cases e : esc r δ1 with
    | no => rw [e] at p1; exact p1.elim
    | ex ee δ2 => exact absurd e esc_nex
    | ok dd δ2 =>
      rw [e] at p1
      simp only [Out.bind] at p1
      obtain ⟨F2, R2, s2, hd⟩ := R1.esc rv e
      replace p1 := PostS.base s2 p1
      split at p1
      · rename_i hh
        have hvo : ∃ vo, σ[i]? = some (some vo) := by
          unfold hasV at hh
          cases q : δ2[i]? with
          | none => rw [q] at hh; cases hh
          | some c =>
            have hs := R2.slot i c q
            cases c with
            | emp => rw [q] at hh; cases hh
            | pure _ => obtain ⟨w, z, _⟩ := hs; exact ⟨_, z⟩
            | own _ => obtain ⟨w, z, _⟩ := hs; exact ⟨_, z⟩
            | inp _ => obtain ⟨w, z, _⟩ := hs; exact ⟨_, z⟩
        obtain ⟨vo, hvo⟩ := hvo
        refine ⟨vo, hvo, x, F2, δ2, R2, p1.bindE fun rk δ3 F3 H3 vk R3 s3 rvk p3 => ?_⟩
        cases e3 : rd δ3 rk with
        | none => simp only [e3] at p3; exact p3.elim
        | some kd =>
          simp only [e3] at p3
          have hkd := R3.read rvk e3
          unfold setC at p3
          cases q : δ3[i]? with
          | none => simp only [q] at p3; exact p3.elim
          | some c =>
            simp only [q] at p3
            split at p3
            · rename_i oc
              cases q2 : c.rd with
              | none => simp only [q2] at p3; exact p3.elim
              | some d0 =>
                simp only [q2] at p3
                cases q3 : setD d0 kd dd with
                | none => simp only [q3] at p3; exact p3.elim
                | some d' =>
                  simp only [q3] at p3
                  have hs := R3.slot i c q
                  have own : ∃ b, σ[i]? = some (some (V.ref b)) ∧ OwnAt X.K F3 H3 b d0 := by
                    cases c with
                    | emp => cases oc
                    | pure _ => cases oc
                    | own _ => cases q2; exact hs
                    | inp _ => cases q2; exact hs
                  obtain ⟨b, hb, ho⟩ := own
                  rw [hvo] at hb; cases hb
                  cases d0 with
                  | list xs =>
                    obtain ⟨us, hus, hD⟩ := ho
                    cases kd with
                    | int ki =>
                      obtain rfl := hkd.int
                      simp only [setD] at q3
                      cases q4 : ixN xs.length ki with
                      | none => rw [q4] at q3; cases q3
                      | some j =>
                        rw [q4] at q3; cases q3
                        refine .inl ⟨b, us, ki, j, rfl, rfl, hus, by rw [hD.length]; exact q4, ?_⟩
                        exact p3 F3 _ σ (R3.mut q oc hvo ⟨us.set j v, upd_same, (hD.set (hd.mono s3) j)⟩) (Same.refl _)
                    | _ => simp only [setD] at q3; cases q3
                  | dict kvs =>
                    obtain ⟨us, hus, hD⟩ := ho
                    have q3 : (keyD kd).bind (fun k => if kvs.length < sizeLine then some (PyData.dict (putKV kvs k dd)) else none) = some d' := by cases kd <;> exact q3
                    cases ek : keyD kd with
                    | none => rw [ek] at q3; cases q3
                    | some k =>
                      rw [ek] at q3
                      simp only [Option.bind] at q3
                      split at q3
                      · rename_i hz
                        cases q3
                        obtain rfl := hkd.key ek
                        refine .inr ⟨b, _, rfl, DPut.k hus (by rw [hD.len]; exact hz), ?_⟩
                        exact p3 F3 _ σ (R3.mut q oc hvo ⟨_, upd_same, hD.put (hd.mono s3)⟩) (Same.refl _)
                      · cases q3
                  | _ => simp only [setD] at q3; cases q3
            · exact p3.elim
      · exact p1.elim
/-! ### name op= .. -/
theorem opI2 (op : Operator) : PIp X op (fun v w H Q => ∃ F d e r, Same F H ∧ RdV X.K F H v d ∧ RdV X.K F H w e ∧ augOk op d e = true ∧ binD op d e = some r ∧ ∀ F' H' u, Grw F H F' H' -> ResN X.K H F' H' u r -> Q u H') := by
  intro pins s σ H v w vv ww Q I rv rw' h
  obtain ⟨F, d, e, r, sF, hd, he, ha, hb, q⟩ := h
  have two_int : ∀ {i j : Int}, d = .int i -> e = .int j -> v = .int i ∧ w = .int j := fun e1 e2 => by
    subst e1 e2; exact ⟨hd.int, he.int⟩
  cases op with
  | Add =>
    cases d with
    | int i =>
      cases e with
      | int j =>
        obtain ⟨rfl, rfl⟩ := two_int rfl rfl
        cases hb
        exact iop_add pins s σ H _ _ vv ww Q I rv rw' ⟨i, j, rfl, rfl, fin_pure sF q rfl (.int _)⟩
      | _ => cases hb
    | str i =>
      cases e with
      | str j =>
        obtain rfl := hd.str
        obtain rfl := he.str
        simp only [binD] at hb
        split at hb
        · rename_i hz
          cases hb
          exact iop_add_str pins s σ H _ _ vv ww Q I rv rw' ⟨i, j, rfl, rfl, hz, fin_pure sF q rfl (.str _)⟩
        · cases hb
      | _ => cases hb
    | _ => cases e <;> cases ha
  | Sub =>
    cases d with
    | int i =>
      cases e with
      | int j =>
        obtain ⟨rfl, rfl⟩ := two_int rfl rfl
        cases hb
        exact iop_sub pins s σ H _ _ vv ww Q I rv rw' ⟨i, j, rfl, rfl, fin_pure sF q rfl (.int _)⟩
      | _ => cases hb
    | _ => cases hb
  | Mult =>
    cases d with
    | int i =>
      cases e with
      | int j =>
        obtain ⟨rfl, rfl⟩ := two_int rfl rfl
        simp only [binD] at hb
        split at hb
        · rename_i hz
          cases hb
          exact iop_mul pins s σ H _ _ vv ww Q I rv rw' ⟨i, j, rfl, rfl, mulOk_ok hz, fin_pure sF q rfl (.int _)⟩
        · cases hb
      | _ => cases hb
    | _ => cases e <;> cases ha
  | FloorDiv =>
    cases d with
    | int i =>
      cases e with
      | int j =>
        obtain ⟨rfl, rfl⟩ := two_int rfl rfl
        simp only [binD] at hb
        split at hb
        · rename_i hz
          cases hb
          have hz2 : CDivW i j := by
            unfold divOk at hz
            simp only [Bool.and_eq_true, decide_eq_true_eq] at hz
            exact hz
          exact iop_fdivW pins s σ H _ _ vv ww Q I rv rw' ⟨i, j, rfl, rfl, hz2, fin_pure sF q rfl (.int _)⟩
        · cases hb
      | _ => cases hb
    | _ => cases hb
  | Mod =>
    cases d with
    | int i =>
      cases e with
      | int j =>
        obtain ⟨rfl, rfl⟩ := two_int rfl rfl
        simp only [binD] at hb
        split at hb
        · rename_i hz
          cases hb
          exact iop_mod pins s σ H _ _ vv ww Q I rv rw' ⟨i, j, rfl, rfl, hz, fin_pure sF q rfl (.int _)⟩
        · cases hb
      | _ => cases hb
    | _ => cases hb
  | _ => cases d <;> cases e <;> cases ha
theorem snd_s_aug {i : Nat} {y : Str} {op : Operator} {p : Pos} (nd : X.N.Nodup) (hN : X.N[i]? = some y) (hl : Loc X.env.scope y) (hf : X.fn y = true ∨ X.env.scope.names.lookup y = some .local) (ha : PE X a (tE X.K Γ gl W ca)) :
    PS X (.AugAssign (.Name y p) op a pos) (tS X.K Γ gl W n (.aug i op ca)) :=
  PS.imp (ps_aug nd hN hl ha (opI2 op) hf) fun E σ H ⟨x, F, δ, R, p⟩ => by
    unfold execS at p
    cases q : δ[i]? with
    | none => simp only [q] at p; exact p.elim
    | some c =>
      cases c with
      | emp => simp only [q] at p; exact p.elim
      | own _ => simp only [q] at p; exact p.elim
      | inp _ => simp only [q] at p; exact p.elim
      | pure d0 =>
        simp only [q] at p
        obtain ⟨v, hv, hd⟩ : SlotR X.K F H σ[i]? (.pure d0) := R.slot i _ q
        refine ⟨v, hv, x, F, δ, R, p.bindE fun r δ1 F1 H1 w R1 s1 rv p1 => ?_⟩
        cases e : rd δ1 r with
        | none => simp only [e] at p1; exact p1.elim
        | some d1 =>
          simp only [e] at p1
          split at p1
          · rename_i ao
            cases e2 : binD op d0 d1 with
            | none => simp only [e2] at p1; exact p1.elim
            | some rr =>
              cases rr with
              | own _ => simp only [e2] at p1; exact p1.elim
              | bor _ => simp only [e2] at p1; exact p1.elim
              | pure dd =>
                simp only [e2] at p1
                refine ⟨F1, d0, d1, _, R1.sub, .inl (hd.mono s1), R1.read rv e, ao, e2, fun F2 H2 u g nn => ?_⟩
                have R2 := R1.grw g
                exact R2.asgC (.inl ⟨dd, rfl, nn⟩) (PostS.base g.f p1)
          · exact p1.elim
/-! ### what is never come to -/
theorem snd_s_nev : PS X st (tS X.K Γ gl W n .nev) :=
  PS.imp ps_never fun E σ H ⟨x, F, δ, R, p⟩ => by
    unfold execS at p; exact p.elim
/-! ### name = [..] -/
theorem snd_s_setLc {i : Nat} {y : Str} {py : Pos} {elt tg iter : Expr} {ifs : List Expr} {scope : Scope} {own : List (Str × Nat)} {p : Pos} {ce : CE} {ct : CT} {cit : CI} {cco : CO} (hc : X.calm = true) (nd : X.N.Nodup) (hN : X.N[i]? = some y) (hyl : X.env.scope.names.lookup y = some .local)
    (hsw : swapsWith (.ListComp elt [⟨tg, iter, ifs, 0⟩] scope p) (some (.Name y py)) pos.line X.env = pure true) (hi : PI X tg iter (tI X.K Γ gl W cit)) (ok : BlkOk X.N X.env.scope scope own)
    (hg : ∀ (s : Shared) (H : Hp) (C : Addr) (cl : List (Str × Addr)) (fp : List Addr), PG (X.blk s H scope (compEnvC scope cl C X.env) fp) tg (tG X.K ct))
    (ht : ∀ (s : Shared) (H : Hp) (C : Addr) (cl : List (Str × Addr)) (fp : List Addr), PTs (X.blk s H scope (compEnvC scope cl C X.env) fp) ifs (tC' X.K Γ gl W0 cco))
    (he : ∀ (s : Shared) (H : Hp) (C : Addr) (cl : List (Str × Addr)) (fp : List Addr), PE (X.blk s H scope (compEnvC scope cl C X.env) fp) elt (tE X.K Γ gl W0 ce)) (hs : ∀ z, foldedSetIterable iter X.env z = pure z) :
    PS X (.Assign [.Name y py] (.ListComp elt [⟨tg, iter, ifs, 0⟩] scope p) pos) (tS X.K Γ gl W n (.asg i (.lc ce ct cit cco (own.map (·.2))))) :=
  PS.imp (ps_setLc hc nd hN hyl hsw hi ok hg ht he hs) fun E σ H ⟨x, F, δ, R, pp⟩ => snd_lc (pos := p) hc nd hi ok hg ht he hs σ H _ ⟨x, F, δ, R, asg_post pp⟩
end
end DE

/-! DE16: what the compiler answers is kept by the text. -/
namespace DE
open PySem PySem.Spec PyProof.Rows L2
structure Good (Γ : Calls) (gl : Str -> Option D) (W : WX) (c : CC) (X : Cx) : Prop where
  nd : X.N.Nodup
  n : X.N = c.N
  sc : X.env.scope = c.sc
  st : ∀ x, locC c.os x = true -> X.fn x = true ∨ X.env.scope.names.lookup x = some .local
  calm : X.calm = true
  units : X.A.units + 100 < cLine
  fns : ∀ f io, c.fns.lookup f = some io -> CallOk Γ X f
  gls : ∀ y, c.gls.contains y = true -> gl y ≠ none ∧ ∀ dt, gl y = some dt -> ∃ v u, X.mg y = some u ∧ RelV v u ∧ ∀ F, Dat X.K F v dt
  blt : ∀ x, x ∈ allB -> X.mg x = none
  tk : Takes X W
  po : PassesOwn (model X.prog X.w) X.A X.env X.xe
section
variable {Γ : Calls} {gl : Str -> Option D} {W : WX} {c : CC} {X : Cx}
theorem okName_of {x : Str} (h : okName x = true) : (x == ("__debug__" : Str)) = false ∧ (x == ("__classdict__" : Str)) = false ∧ (x == ("__name__" : Str)) = false := by
  unfold okName at h
  simp only [Bool.and_eq_true, Bool.not_eq_true'] at h
  exact ⟨h.1.1, h.1.2, h.2⟩
theorem Good.slot (G : Good Γ gl W c X) {x : Str} {i : Nat} (h : c.slot x = some i) : X.N[i]? = some x ∧ Vis X.env.scope x ∧ (x == ("__debug__" : Str)) = false ∧ (x == ("__classdict__" : Str)) = false := by
  unfold CC.slot at h
  split at h
  · rename_i z
    rw [Bool.and_eq_true] at z
    obtain ⟨h1, h2, _⟩ := okName_of z.2
    exact ⟨by rw [G.n]; exact idxOf_get h, by rw [G.sc]; exact vis_of z.1, h1, h2⟩
  · cases h
theorem Good.store (G : Good Γ gl W c X) {x : Str} {i : Nat} (h : c.st x = some i) : X.N[i]? = some x ∧ Loc X.env.scope x ∧ (X.fn x = true ∨ X.env.scope.names.lookup x = some .local) := by
  unfold CC.st at h
  split at h
  · rename_i z
    rw [Bool.and_eq_true, Bool.and_eq_true] at z
    exact ⟨by rw [G.n]; exact idxOf_get h, by rw [G.sc]; exact loc_of z.1, G.st x z.2.1⟩
  · cases h
theorem Good.glo (G : Good Γ gl W c X) {x : Str} (h : gloC c.sc x = true) : Gl X x := by
  show X.env.scope.names.lookup x = _
  rw [G.sc]; exact glo_of h
theorem Good.u65 (G : Good Γ gl W c X) : X.A.units + 65 < cLine := by have := G.units; omega
theorem Good.u70 (G : Good Γ gl W c X) : X.A.units + 70 < cLine := by have := G.units; omega
theorem Good.blk (G : Good Γ gl W c X) (scope : Scope) (s : Shared) (H : Hp) (C : Addr) (cl : List (Str × Addr)) (fp : List Addr) : Good Γ gl W0 { c with sc := relS scope c.sc, os := scope } (X.blk s H scope (compEnvC scope cl C X.env) fp) where
  nd := G.nd
  n := G.n
  sc := by rw [← G.sc]; rfl
  st := fun x h => by
    unfold locC at h
    show (scope.names.lookup x == some .cell) = true ∨ (relS scope X.env.scope).names.lookup x = some .local
    split at h
    · rename_i e
      refine .inr ?_
      have key : ∀ (l : List (Str × NameKind)), l.lookup x = some .local -> (l.map fun (n, k) => if (k == .free && X.env.scope.kind == .function && X.env.scope.names.lookup n == some .cell) then (n, NameKind.cell) else (n, k)).lookup x = some .local := by
        intro l
        induction l with
        | nil => intro h; cases h
        | cons y r ih =>
          intro h
          obtain ⟨n, k⟩ := y
          rw [List.lookup_cons] at h
          rw [List.map_cons]
          cases q : x == n with
          | true =>
            rw [q] at h
            cases h
            simp only []
            rw [if_neg (by simp), List.lookup_cons, q]
          | false =>
            rw [q] at h
            have h2 := ih h
            simp only []
            split
            · rw [List.lookup_cons, q]; exact h2
            · rw [List.lookup_cons, q]; exact h2
      exact key _ e
    · rename_i e
      exact .inl (by rw [e]; rfl)
    · cases h
  calm := G.calm
  units := G.units
  fns := G.fns
  gls := G.gls
  blt := G.blt
  tk := takes0
  po := PassesOwn.never
theorem bim_no {op : CmpOp} {b : Expr} (h : noSet b = true) : behindInMarks op b = false := by
  cases b <;> first | (simp [noSet] at h; done) | rfl
theorem lm_no {o p : CmpOp} {b d : Expr} (h : noSet d = true) : lastMarks [o, p] [b, d] = false := by
  show behindInMarks p d = false
  exact bim_no h
theorem fold_no {e : Expr} {env : Env} (h : noSet e = true) (z : Value) : foldedSetIterable e env z = pure z := by
  cases e <;> first | (simp [noSet] at h; done) | rfl
theorem plainIx_of {b : Expr} (h : noSlice b = true) : PlainIx b := by
  intro o i
  cases b <;> first | (simp [noSlice] at h; done) | rfl
structure LcOk (Γ : Calls) (gl : Str -> Option D) (W : WX) (X : Cx) (elt tg it : Expr) (ifs : List Expr) (scope : Scope) (x : CE) : Prop where
  ex : ∃ ce ct cit cco own, x = .lc ce ct cit cco (own.map (·.2)) ∧ BlkOk X.N X.env.scope scope own ∧ PI X tg it (tI X.K Γ gl W cit) ∧
    (∀ (s : Shared) (H : Hp) (C : Addr) (cl : List (Str × Addr)) (fp : List Addr), PG (X.blk s H scope (compEnvC scope cl C X.env) fp) tg (tG X.K ct)) ∧
    (∀ (s : Shared) (H : Hp) (C : Addr) (cl : List (Str × Addr)) (fp : List Addr), PTs (X.blk s H scope (compEnvC scope cl C X.env) fp) ifs (tC' X.K Γ gl W0 cco)) ∧
    (∀ (s : Shared) (H : Hp) (C : Addr) (cl : List (Str × Addr)) (fp : List Addr), PE (X.blk s H scope (compEnvC scope cl C X.env) fp) elt (tE X.K Γ gl W0 ce)) ∧ ∀ z, foldedSetIterable it X.env z = pure z
structure AllAt (Γ : Calls) (gl : Str -> Option D) (n : Nat) : Prop where
  t : ∀ {W c X}, Good Γ gl W c X -> ∀ {e x}, compT c n e = some x -> PG X e (tG X.K x)
  ts : ∀ {W c X}, Good Γ gl W c X -> ∀ {e x}, compTs c n e = some x -> PGs X e (tGs X.K x) ∧ e.all noStar = true ∧ x.length = e.length
  e : ∀ {W c X}, Good Γ gl W c X -> ∀ {e x}, compE c n e = some x -> PE X e (tE X.K Γ gl W x) ∧ (noIf e = true -> PT X e (tT X.K Γ gl W x))
  call : ∀ {W c X}, Good Γ gl W c X -> ∀ {f as x}, compCall c n f as = some x -> gloC c.sc f = true -> okName f = true -> ∀ p pos, PE X (.Call (.Name f p) as [] pos) (tE X.K Γ gl W x) ∧ genT x = true
  an : ∀ {W c X}, Good Γ gl W c X -> ∀ {es x}, compAn c n es = some x -> ∀ pos, PE X (.BoolOp .And es pos) (tE X.K Γ gl W x) ∧ PW X (.BoolOp .And es pos) (tT X.K Γ gl W x)
  or : ∀ {W c X}, Good Γ gl W c X -> ∀ {es x}, compOr c n es = some x -> ∀ pos, PE X (.BoolOp .Or es pos) (tE X.K Γ gl W x) ∧ PW X (.BoolOp .Or es pos) (tT X.K Γ gl W x)
  es : ∀ {W c X}, Good Γ gl W c X -> ∀ {es x}, compEs c n es = some x -> PA X es (tEs X.K Γ gl W x) ∧ PA X es (tRs X.K Γ gl W x) ∧ es.all noStar = true ∧ (es = [] -> x = .nil)
  as_ : ∀ {W c X}, Good Γ gl W c X -> ∀ {j io es x}, compAs c n j io es = some x -> PA X es (tAs X.K Γ gl W x) ∧ es.all noStar = true ∧ (es = [] -> x = .nil)
  ps : ∀ {W c X}, Good Γ gl W c X -> ∀ {ks vs x}, compPs c n ks vs = some x -> ∃ trs, PsOk Γ gl W X ks vs x trs
  a1 : ∀ {W c X}, Good Γ gl W c X -> ∀ {b e y}, compA1 c n b e = some y -> (∀ x, y = .inl x -> PE X e (tE X.K Γ gl W x)) ∧ ∀ i, y = .inr i -> ∃ z p, e = .Name z p ∧ c.slot z = some i
  o : ∀ {W c X}, Good Γ gl W c X -> ∀ {e x}, compO c n e = some x -> PO X e (tO X.K Γ gl W x)
  i : ∀ {W c X}, Good Γ gl W c X -> ∀ {tu e x}, compI c n tu e = some x -> ∀ tg, (tu = true -> isTup tg = true) -> PI X tg e (tI X.K Γ gl W x)
  lc : ∀ {W c X}, Good Γ gl W c X -> ∀ {elt tg it ifs scope x}, compLc c n elt tg it ifs scope = some x -> LcOk Γ gl W X elt tg it ifs scope x
  ifs : ∀ {W c X}, Good Γ gl W c X -> ∀ {es x}, compIfs c n es = some x -> PTs X es (tC' X.K Γ gl W x)
theorem all0 : AllAt Γ gl 0 where
  t := fun _ => by intro e x h; unfold compT at h; cases h
  ts := fun _ => by intro e x h; unfold compTs at h; cases h
  e := fun _ => by intro e x h; unfold compE at h; cases h
  call := fun _ => by intro e x y h; unfold compCall at h; cases h
  an := fun _ => by intro e x h; unfold compAn at h; cases h
  or := fun _ => by intro e x h; unfold compOr at h; cases h
  es := fun _ => by intro e x h; unfold compEs at h; cases h
  as_ := fun _ => by intro e x y z h; unfold compAs at h; cases h
  ps := fun _ => by intro e x y h; unfold compPs at h; cases h
  a1 := fun _ => by intro e x y h; unfold compA1 at h; cases h
  o := fun _ => by intro e x h; unfold compO at h; cases h
  i := fun _ => by intro tu e x h; unfold compI at h; cases h
  lc := fun _ => by intro a b c d e f h; unfold compLc at h; cases h
  ifs := fun _ => by intro e x h; unfold compIfs at h; cases h
end
end DE

/-! DE17: the step of that. -/
namespace DE
open PySem PySem.Spec PyProof.Rows L2
section
variable {Γ : Calls} {gl : Str -> Option D} {W : WX} {c : CC} {X : Cx} {n : Nat}
theorem orMap {α β : Type} {o : Option α} {f : α -> β} {y : β} (h : o.map f = some y) : ∃ x, o = some x ∧ f x = y := by
  cases o with
  | none => cases h
  | some x => cases h; exact ⟨x, rfl, rfl⟩
theorem both {e : Expr} {x : CE} (g : PE X e (tE X.K Γ gl W x)) (k : genT x = true) (he : ∀ whole, isTrue e X.env whole = (do let v ← whole; standAt e.pos; holding [v] (truthy v))) : PE X e (tE X.K Γ gl W x) ∧ (noIf e = true -> PT X e (tT X.K Γ gl W x)) :=
  ⟨g, fun _ => snd_tgen k g he⟩
theorem step_t (A : AllAt Γ gl n) (G : Good Γ gl W c X) {e : Expr} {x : CT} (h : compT c (n + 1) e = some x) : PG X e (tG X.K x) := by
  unfold compT at h
  split at h
  · rename_i y p
    cases q : c.st y with
    | none => rw [q] at h; cases h
    | some i =>
      rw [q] at h; cases h
      obtain ⟨h1, h2, h3⟩ := G.store q
      exact snd_nm G.nd h1 h2 h3
  · rename_i es k p
    cases q : compTs c n es with
    | none => rw [q] at h; cases h
    | some ts =>
      rw [q] at h; cases h
      obtain ⟨h1, h2, h3⟩ := A.ts G q
      exact snd_gtup G.calm h2 h3 h1
  · cases h
theorem step_ts (A : AllAt Γ gl n) (G : Good Γ gl W c X) {e : List Expr} {x : List CT} (h : compTs c (n + 1) e = some x) : PGs X e (tGs X.K x) ∧ e.all noStar = true ∧ x.length = e.length := by
  unfold compTs at h
  split at h
  · cases h; exact ⟨snd_gnil, rfl, rfl⟩
  · rename_i e r
    split at h
    · rename_i t ts h1 h2 h3
      cases h
      obtain ⟨g1, g2, g3⟩ := A.ts G h3
      exact ⟨snd_gcons h1 (A.t G h2) g1, by rw [List.all_cons, h1, g2]; rfl, by rw [List.length_cons, List.length_cons, g3]⟩
    · cases h
theorem step_es (A : AllAt Γ gl n) (G : Good Γ gl W c X) {es : List Expr} {x : CEs} (h : compEs c (n + 1) es = some x) : PA X es (tEs X.K Γ gl W x) ∧ PA X es (tRs X.K Γ gl W x) ∧ es.all noStar = true ∧ (es = [] -> x = .nil) := by
  unfold compEs at h
  split at h
  · cases h; exact ⟨snd_es_nil, snd_rs_nil, rfl, fun _ => rfl⟩
  · rename_i e r
    split at h
    · rename_i y ys h1 h2 h3
      cases h
      obtain ⟨g1, g2, g3, _⟩ := A.es G h3
      obtain ⟨he, _⟩ := A.e G h2
      exact ⟨snd_es_cons h1 he g1, snd_rs_cons h1 he g2, by rw [List.all_cons, h1, g3]; rfl, fun z => by cases z⟩
    · cases h
theorem step_ps (A : AllAt Γ gl n) (G : Good Γ gl W c X) {ks : List (Option Expr)} {vs : List Expr} {x : CEs} (h : compPs c (n + 1) ks vs = some x) : ∃ trs, PsOk Γ gl W X ks vs x trs := by
  unfold compPs at h
  split at h
  · cases h; exact ⟨[], .nil⟩
  · split at h
    · rename_i h1 h2 h3
      cases h
      obtain ⟨trs, g⟩ := A.ps G h3
      exact ⟨_, .cons (A.e G h1).1 (A.e G h2).1 g⟩
    · cases h
  · cases h
theorem step_a1 (A : AllAt Γ gl n) (G : Good Γ gl W c X) {b : Bool} {e : Expr} {y : CE ⊕ Nat} (h : compA1 c (n + 1) b e = some y) : (∀ x, y = .inl x -> PE X e (tE X.K Γ gl W x)) ∧ ∀ i, y = .inr i -> ∃ z p, e = .Name z p ∧ c.slot z = some i := by
  unfold compA1 at h
  split at h
  · rename_i z p
    cases q : c.slot z with
    | none => rw [q] at h; cases h
    | some i =>
      rw [q] at h; cases h
      exact ⟨fun x hx => by (cases hx), fun j hj => by cases hj; exact ⟨z, p, rfl, q⟩⟩
  · obtain ⟨x, q, rfl⟩ := orMap h
    exact ⟨fun y hy => by cases hy; exact (A.e G q).1, fun j hj => by cases hj⟩
theorem step_as (A : AllAt Γ gl n) (G : Good Γ gl W c X) {j : Nat} {io : List Nat} {es : List Expr} {x : CAs} (h : compAs c (n + 1) j io es = some x) : PA X es (tAs X.K Γ gl W x) ∧ es.all noStar = true ∧ (es = [] -> x = .nil) := by
  unfold compAs at h
  split at h
  · cases h; exact ⟨snd_as_nil, rfl, fun _ => rfl⟩
  · rename_i e r
    split at h
    · rename_i y ys h1 h2 h3
      cases h
      obtain ⟨g1, g3, _⟩ := A.as_ G h3
      exact ⟨snd_as_val h1 ((A.a1 G h2).1 _ rfl) g1, by rw [List.all_cons, h1, g3]; rfl, fun z => by cases z⟩
    · rename_i i ys h1 h2 h3
      cases h
      obtain ⟨g1, g3, _⟩ := A.as_ G h3
      obtain ⟨z, p, rfl, hs⟩ := (A.a1 G h2).2 _ rfl
      obtain ⟨k1, k2, k3, k4⟩ := G.slot hs
      exact ⟨snd_as_ref k1 k2 k3 k4 g1, by rw [List.all_cons, h1, g3]; rfl, fun z => by cases z⟩
    · cases h
theorem step_o (A : AllAt Γ gl n) (G : Good Γ gl W c X) {e : Option Expr} {x : CO} (h : compO c (n + 1) e = some x) : PO X e (tO X.K Γ gl W x) := by
  unfold compO at h
  split at h
  · cases h; exact snd_o_non
  · rename_i e
    cases q : compE c n e with
    | none => rw [q] at h; cases h
    | some x => rw [q] at h; cases h; exact snd_o_som (A.e G q).1
theorem step_ifs (A : AllAt Γ gl n) (G : Good Γ gl W c X) {es : List Expr} {x : CO} (h : compIfs c (n + 1) es = some x) : PTs X es (tC' X.K Γ gl W x) := by
  unfold compIfs at h
  split at h
  · cases h; exact snd_ifs_nil
  · split at h
    · rename_i y h1 h2
      cases h
      exact snd_ifs_one ((A.e G h2).2 h1)
    · cases h
  · cases h
theorem step_an (A : AllAt Γ gl n) (G : Good Γ gl W c X) {es : List Expr} {x : CE} (h : compAn c (n + 1) es = some x) (pos : Pos) : PE X (.BoolOp .And es pos) (tE X.K Γ gl W x) ∧ PW X (.BoolOp .And es pos) (tT X.K Γ gl W x) := by
  unfold compAn at h
  split at h
  · rename_i a
    split at h
    · rename_i h1
      obtain ⟨g1, g2⟩ := A.e G h
      exact ⟨snd_one g1, snd_tan1 (g2 h1)⟩
    · cases h
  · rename_i a b r
    split at h
    · rename_i y z h1 h2 h3
      cases h
      obtain ⟨g1, g2⟩ := A.e G h2
      obtain ⟨g3, g4⟩ := A.an G h3 pos
      exact ⟨snd_an g1 g3, snd_tan (g2 h1) g4⟩
    · cases h
  · cases h
theorem step_or (A : AllAt Γ gl n) (G : Good Γ gl W c X) {es : List Expr} {x : CE} (h : compOr c (n + 1) es = some x) (pos : Pos) : PE X (.BoolOp .Or es pos) (tE X.K Γ gl W x) ∧ PW X (.BoolOp .Or es pos) (tT X.K Γ gl W x) := by
  unfold compOr at h
  split at h
  · rename_i a
    split at h
    · rename_i h1
      obtain ⟨g1, g2⟩ := A.e G h
      exact ⟨snd_one g1, snd_tor1 (g2 h1)⟩
    · cases h
  · rename_i a b r
    split at h
    · rename_i y z h1 h2 h3
      cases h
      obtain ⟨g1, g2⟩ := A.e G h2
      obtain ⟨g3, g4⟩ := A.or G h3 pos
      exact ⟨snd_or g1 g3, snd_tor (g2 h1) g4⟩
    · cases h
  · cases h
theorem step_lc (A : AllAt Γ gl n) (G : Good Γ gl W c X) {elt tg it : Expr} {ifs : List Expr} {scope : Scope} {x : CE} (h : compLc c (n + 1) elt tg it ifs scope = some x) : LcOk Γ gl W X elt tg it ifs scope x := by
  unfold compLc at h
  split at h
  · rename_i h0
    rw [Bool.and_eq_true] at h0
    split at h
    · rename_i ci ct cx co h1 h2 h3 h4
      cases h
      refine ⟨cx, ct, ci, co, ownOf c.N scope.names, rfl, ?_, A.i G h1 tg id, fun s H C cl fp => A.t (G.blk scope s H C cl fp) h2, fun s H C cl fp => A.ifs (G.blk scope s H C cl fp) h4, fun s H C cl fp => (A.e (G.blk scope s H C cl fp) h3).1, fun z => fold_no h0.1 z⟩
      rw [G.n, G.sc]
      exact blkOk_by h0.2
    · cases h
  · cases h
theorem step_i (A : AllAt Γ gl n) (G : Good Γ gl W c X) {tu : Bool} {e : Expr} {x : CI} (h : compI c (n + 1) tu e = some x) (tg : Expr) (ht : tu = true -> isTup tg = true) : PI X tg e (tI X.K Γ gl W x) := by
  have gen : ∀ {e : Expr}, (compE c n e).map CI.val = some x -> PI X tg e (tI X.K Γ gl W x) := fun {e} h => by
    cases q : compE c n e with
    | none => rw [q] at h; cases h
    | some y => rw [q] at h; cases h; exact snd_i_val (A.e G q).1
  unfold compI at h
  split at h
  · split at h
    · rename_i hf
      subst hf
      split at h
      · rename_i h1
        rw [Bool.and_eq_true] at h1
        obtain ⟨y, q, rfl⟩ := orMap h
        exact snd_i_rng1 (G.glo h1.1) (G.blt _ (by decide)) h1.2 (A.e G q).1
      · cases h
    · exact gen h
  · split at h
    · rename_i hf
      subst hf
      split at h
      · rename_i h1
        rw [Bool.and_eq_true, Bool.and_eq_true] at h1
        split at h
        · rename_i h2 h3
          cases h
          exact snd_i_rng2 (G.glo h1.1) (G.blt _ (by decide)) h1.2.1 h1.2.2 (A.e G h2).1 (A.e G h3).1
        · cases h
      · cases h
    · split at h
      · rename_i hf2
        subst hf2
        split at h
        · rename_i h1
          rw [Bool.and_eq_true, Bool.and_eq_true, Bool.and_eq_true] at h1
          split at h
          · rename_i h2 h3
            cases h
            exact snd_i_zip (ht h1.1) (G.glo h1.2.1) (G.blt _ (by decide)) h1.2.2.1 h1.2.2.2 (A.e G h2).1 (A.e G h3).1
          · cases h
        · cases h
      · exact gen h
  · exact gen h
theorem step_call (A : AllAt Γ gl n) (G : Good Γ gl W c X) {f : Str} {as : List Expr} {x : CE} (h : compCall c (n + 1) f as = some x) (hg : gloC c.sc f = true) (hk : okName f = true) (p pos : Pos) : PE X (.Call (.Name f p) as [] pos) (tE X.K Γ gl W x) ∧ genT x = true := by
  obtain ⟨k1, _, _⟩ := okName_of hk
  have blt : ∀ {a : Expr} {r : List Expr} {b : Bf} {xs : CEs}, bfOf f = some b -> compEs c n (a :: r) = some xs -> PE X (.Call (.Name f p) (a :: r) [] pos) (tE X.K Γ gl W (.blt b xs)) ∧ genT (.blt b xs) = true := fun {a r b xs} h1 h2 => by
    have e := bfOf_eq h1
    subst e
    obtain ⟨_, g2, g3, _⟩ := A.es G h2
    exact ⟨snd_blt G.calm G.u70 (G.glo hg) (G.blt _ (by cases b <;> decide)) g3 g2, rfl⟩
  unfold compCall at h
  split at h
  · rename_i io q
    cases q2 : compAs c n 0 io as with
    | none => rw [q2] at h; cases h
    | some xs =>
      rw [q2] at h; cases h
      obtain ⟨g1, g2, g3⟩ := A.as_ G q2
      have C := G.fns f io q
      cases as with
      | nil => rw [g3 rfl]; exact ⟨snd_call0 G.tk C (G.glo hg) k1, rfl⟩
      | cons a r => exact ⟨snd_call G.tk C (G.glo hg) k1 g2 g1, rfl⟩
  · split at h
    · split at h
      · rename_i hf
        subst hf
        split at h
        · rename_i t y h1 h2 h3
          cases h
          rw [Bool.and_eq_true] at h2
          have e := tfOf_eq h1
          subst e
          exact ⟨snd_isi (G.glo hg) (G.blt _ (by decide)) (G.glo h2.1) (G.blt _ (by cases t <;> decide)) h2.2 (A.e G h3).1, rfl⟩
        · cases h
      · split at h
        · rename_i h1 h2
          cases h
          exact blt h1 h2
        · cases h
    · cases h
    · split at h
      · rename_i hf
        obtain ⟨rfl, hf⟩ := hf
        split at h
        · rename_i h2 h3
          cases h
          rw [Bool.and_eq_true] at h2
          rcases hf with rfl | rfl
          · exact ⟨snd_sit G.calm (G.glo hg) (G.blt _ (by decide)) h2.1 h2.2 (A.e G h3).1, rfl⟩
          · exact ⟨snd_sky G.calm G.u70 (G.glo hg) (G.blt _ (by decide)) h2.1 h2.2 (A.e G h3).1, rfl⟩
        · cases h
      · split at h
        · rename_i h1 h2
          cases h
          exact blt h1 h2
        · cases h
    · split at h
      · rename_i hf
        obtain ⟨rfl, rfl⟩ := hf
        split at h
        · rename_i h2 h3
          cases h
          rw [Bool.and_eq_true] at h2
          exact ⟨snd_lrv G.calm (G.glo hg) (G.blt _ (by decide)) (G.glo h2.1) (G.blt _ (by decide)) h2.2 (A.e G h3).1, rfl⟩
        · cases h
      · split at h
        · rename_i h1 h2
          cases h
          exact blt h1 h2
        · cases h
    · split at h
      · rename_i h1 h2
        cases h
        cases as with
        | nil => exfalso; simp_all
        | cons a r => exact blt h1 h2
      · cases h
theorem step_e (A : AllAt Γ gl n) (G : Good Γ gl W c X) {e : Expr} {x : CE} (h : compE c (n + 1) e = some x) : PE X e (tE X.K Γ gl W x) ∧ (noIf e = true -> PT X e (tT X.K Γ gl W x)) := by
  unfold compE at h
  split at h
  · -- a name
    rename_i y p
    split at h
    · rename_i i q
      cases h
      obtain ⟨h1, h2, h3, h4⟩ := G.slot q
      exact both (snd_slot (pos := p) h1 h2 h3 h4) rfl fun _ => rfl
    · split at h
      · rename_i z
        cases h
        rw [Bool.and_eq_true, Bool.and_eq_true] at z
        obtain ⟨z1, z2, z3⟩ := z
        obtain ⟨k1, _, _⟩ := okName_of z2
        obtain ⟨g1, g2⟩ := G.gls y z3
        have g : PE X (.Name y p) (tE X.K Γ gl W (.glb y)) := snd_glb (fun dt hd => by
          obtain ⟨v, u, e1, e2, e3⟩ := g2 dt hd
          exact ⟨v, pe_glob (G.glo z1) e1 e2 k1, e3⟩) g1
        exact ⟨g, fun _ => snd_tgen rfl g fun _ => rfl⟩
      · cases h
  · -- a constant
    rename_i k j p
    obtain ⟨d, q, rfl⟩ := orMap h
    have g : PE X (.Constant k j p) (tE X.K Γ gl W (.con d)) := by
      cases k with
      | none => cases q; exact snd_con pe_non fun _ => .non
      | bool b => cases q; exact snd_con pe_bl fun _ => .bl _
      | int i => cases q; exact snd_con pe_int fun _ => .int _
      | str z => cases q; exact snd_con pe_str fun _ => .str _
      | _ => cases q
    exact ⟨g, fun _ => snd_tgen rfl g fun _ => rfl⟩
  · -- an operator
    split at h
    · rename_i h1 h2
      cases h
      exact both (snd_bin (A.e G h1).1 (A.e G h2).1) rfl fun _ => rfl
    · cases h
  · obtain ⟨y, q, rfl⟩ := orMap h
    exact both (snd_neg (A.e G q).1) rfl fun _ => rfl
  · split at h
    · rename_i h1
      obtain ⟨y, q, rfl⟩ := orMap h
      obtain ⟨g1, g2⟩ := A.e G q
      exact ⟨snd_nt g1, fun _ => snd_tnt (g2 h1)⟩
    · cases h
  · obtain ⟨g1, g2⟩ := A.an G h _
    exact ⟨g1, fun _ => g2.pt⟩
  · obtain ⟨g1, g2⟩ := A.or G h _
    exact ⟨g1, fun _ => g2.pt⟩
  · split at h
    · rename_i h0 h1 h2
      cases h
      exact ⟨snd_cmp G.u65 (bim_no h0) (A.e G h1).1 (A.e G h2).1, fun _ => snd_tcmp G.u65 (bim_no h0) (A.e G h1).1 (A.e G h2).1⟩
    · cases h
  · split at h
    · rename_i h0 h1 h2 h3
      cases h
      rw [Bool.and_eq_true] at h0
      exact ⟨snd_cmp2 G.u65 (lm_no h0.2) (A.e G h1).1 (A.e G h2).1 (A.e G h3).1, fun _ => snd_tcmp2 G.u65 (lm_no h0.2) (A.e G h1).1 (A.e G h2).1 (A.e G h3).1⟩
    · cases h
  · split at h
    · rename_i h0 h1 h2 h3
      cases h
      exact ⟨snd_ife ((A.e G h1).2 h0) (A.e G h2).1 (A.e G h3).1, fun z => by cases z⟩
    · cases h
  · obtain ⟨y, q, rfl⟩ := orMap h
    obtain ⟨g1, _⟩ := A.es G q
    exact both (snd_tup g1) rfl fun _ => rfl
  · obtain ⟨y, q, rfl⟩ := orMap h
    obtain ⟨g1, _⟩ := A.es G q
    exact both (snd_lst g1) rfl fun _ => rfl
  · split at h
    · rename_i h0
      rw [Bool.and_eq_true, Bool.and_eq_true, decide_eq_true_eq, decide_eq_true_eq] at h0
      obtain ⟨y, q, rfl⟩ := orMap h
      obtain ⟨trs, g⟩ := A.ps G q
      exact both (snd_dsp g h0.1 h0.2.1 h0.2.2) rfl fun _ => rfl
    · cases h
  · split at h
    · rename_i h1 h2 h3
      cases h
      exact both (snd_slc (A.e G h1).1 (A.o G h2) (A.o G h3)) rfl fun _ => rfl
    · cases h
  · split at h
    · rename_i h0 h1 h2
      cases h
      exact both (snd_idx (plainIx_of h0) (A.e G h1).1 (A.e G h2).1) rfl fun _ => rfl
    · cases h
  · split at h
    · rename_i h0
      rw [Bool.and_eq_true] at h0
      obtain ⟨g, k⟩ := A.call G h h0.1 h0.2 _ _
      exact ⟨g, fun _ => snd_tgen k g fun _ => rfl⟩
    · cases h
  · split at h
    · rename_i h0 h1 h2 h3
      cases h
      rw [Bool.and_eq_true, Bool.and_eq_true, decide_eq_true_eq] at h0
      have e := mfOf_eq h1
      subst e
      obtain ⟨g1, _, g2, g3⟩ := A.es G h3
      exact both (snd_mth (by have := G.u65; omega) h0.1 h0.2.1 h0.2.2 g2 (A.e G h2).1 g1 g3) rfl fun _ => rfl
    · cases h
  · split at h
    · rename_i hf
      obtain ⟨rfl, rfl⟩ := hf
      split at h
      · rename_i h0 h1 h2
        cases h
        rw [Bool.and_eq_true, Bool.and_eq_true, Bool.and_eq_true] at h0
        obtain ⟨k1, k2, k3, k4⟩ := h0
        exact both (snd_srt G.u70 (G.fns _ _ h1) (G.glo k1) (G.blt _ (by decide)) (G.glo k2) (okName_of k3).1 k4 (A.e G h2).1) rfl fun _ => rfl
      · cases h
    · cases h
  · obtain ⟨ce, ct, cit, cco, own, rfl, ok, hi, hg, ht, he, hs⟩ := A.lc G h
    rename_i elt tg it ifs scope p
    have g : PE X (.ListComp elt [⟨tg, it, ifs, 0⟩] scope p) (tE X.K Γ gl W (.lc ce ct cit cco (own.map (·.2)))) := PE.imp (pe_lc G.calm G.nd hi ok hg ht he hs) (snd_lc (pos := p) G.calm G.nd hi ok hg ht he hs)
    exact ⟨g, fun _ => snd_tgen rfl g fun _ => rfl⟩
  · cases h
theorem allS (A : AllAt Γ gl n) : AllAt Γ gl (n + 1) where
  t := fun G => fun h => step_t A G h
  ts := fun G => fun h => step_ts A G h
  e := fun G => fun h => step_e A G h
  call := fun G => fun h => step_call A G h
  an := fun G => fun h => step_an A G h
  or := fun G => fun h => step_or A G h
  es := fun G => fun h => step_es A G h
  as_ := fun G => fun h => step_as A G h
  ps := fun G => fun h => step_ps A G h
  a1 := fun G => fun h => step_a1 A G h
  o := fun G => fun h => step_o A G h
  i := fun G => fun h => step_i A G h
  lc := fun G => fun h => step_lc A G h
  ifs := fun G => fun h => step_ifs A G h
end
theorem allAt (Γ : Calls) (gl : Str -> Option D) : ∀ n, AllAt Γ gl n
  | 0 => all0
  | n + 1 => allS (allAt Γ gl n)
end DE

/-! DE18: statements as compiled; defs. -/
namespace DE
open PySem PySem.Spec PyProof.Rows L2
section
variable {Γ : Calls} {gl : Str -> Option D} {W : WX} {c : CC} {X : Cx} {m : Nat}
theorem test_of {n : Nat} (G : Good Γ gl W c X) {e : Expr} {x : CE} (h : compTest c n e = some x) : PT X e (tT X.K Γ gl W x) := by
  unfold compTest at h
  split at h
  · rename_i h0
    exact ((allAt Γ gl n).e G h).2 h0
  · cases h
theorem swC_of (G : Good Γ gl W c X) {y : Str} {py : Pos} {e : Expr} (h : swC c y py e = true) : ∃ elt gs scope pos, e = .ListComp elt gs scope pos ∧ X.env.scope.names.lookup y = some .local ∧ ∀ l, swapsWith e (some (.Name y py)) l X.env = pure true := by
  cases e with
  | ListComp elt gs scope pos =>
    unfold swC at h
    simp only [Bool.and_eq_true, Bool.not_eq_true'] at h
    obtain ⟨⟨h1, h2⟩, h3, h4⟩ := h
    have hk : X.env.scope.kind = .function := by
      rw [G.sc]
      split at h1
      · assumption
      · cases h1
    have hy : X.env.scope.names.lookup y = some .local := by
      rw [G.sc]
      split at h2
      · assumption
      · cases h2
    exact ⟨elt, gs, scope, pos, rfl, hy, fun l => sw_true hk hy h3 h4⟩
  | _ => simp [swC] at h
theorem snd_S (G : Good Γ gl W c X) : ∀ n, (∀ s x, compS c n s = some x -> PS X s (tS X.K Γ gl W m x)) ∧ ∀ ss x, compSs c n ss = some x -> PSs X ss (tSs X.K Γ gl W m x)
  | 0 => ⟨fun s x h => (by unfold compS at h; cases h), fun s x h => (by unfold compSs at h; cases h)⟩
  | n + 1 => by
    obtain ⟨ihs, ihss⟩ := snd_S G n
    have A := allAt Γ gl n
    refine ⟨fun s x h => ?_, fun ss x h => ?_⟩
    · unfold compS at h
      split at h
      · split at h
        · rename_i h0
          obtain ⟨y, q, rfl⟩ := orMap h
          exact snd_s_expr (A.e G q).1 (sw_no h0)
        · cases h
      · split at h
        · rename_i y py e p o1 o2 o3 i z h0 h1 h2
          cases h
          obtain ⟨k1, k2, k3⟩ := G.store h1
          rw [Bool.or_eq_true] at h0
          rcases h0 with h0 | h0
          · obtain ⟨elt, gs, scope, pos, rfl, hy, hsw⟩ := swC_of G h0
            cases n with
            | zero => unfold compE at h2; cases h2
            | succ n =>
              unfold compE at h2
              split at h2
              all_goals first | (exfalso; rename_i z; exact Expr.noConfusion z) | skip
              · rename_i hq
                cases hq
                obtain ⟨ce, ct, cit, cco, own, rfl, ok, hi, hg, ht, he, hs⟩ := (allAt Γ gl n).lc G h2
                exact snd_s_setLc G.calm G.nd k1 hy (hsw _) hi ok hg ht he hs
              · cases h2
          · exact snd_s_asg G.nd k1 k2 k3 (A.e G h2).1 (sw_no h0)
        · cases h
      · split at h
        · rename_i h0 h1 h2
          cases h
          rw [Bool.and_eq_true] at h0
          exact snd_s_asgT h0.1 h0.2 (A.e G h2).1 (A.t G h1)
        · cases h
      · split at h
        · rename_i h0 h1 h2 h3
          cases h
          rw [Bool.and_eq_true] at h0
          obtain ⟨k1, k2, k3, k4⟩ := G.slot h1
          exact snd_s_seti (by have := G.u65; omega) k1 k2 k3 k4 h0.1 h0.2 (A.e G h2).1 (A.e G h3).1
        · cases h
      · split at h
        · rename_i h1 h2
          cases h
          obtain ⟨k1, k2, k3⟩ := G.store h1
          exact snd_s_aug G.nd k1 k2 k3 (A.e G h2).1
        · cases h
      · split at h
        · rename_i h1 h2 h3
          cases h
          exact snd_s_if (test_of G h1) (ihss _ _ h2) (ihss _ _ h3)
        · cases h
      · split at h
        · rename_i h1 h2
          cases h
          exact snd_s_while G.po (test_of G h1) (ihss _ _ h2)
        · cases h
      · split at h
        · rename_i h1 h2 h3 h4
          cases h
          exact snd_s_for G.po G.calm (A.i G h3 _ id) (A.t G h1) (ihss _ _ h4) (fun z => fold_no h2 z)
        · cases h
      · obtain ⟨y, q, rfl⟩ := orMap h
        exact snd_s_ret (A.e G q).1
      · cases h; exact snd_s_retN
      · cases h; exact snd_s_pass
      · cases h; exact snd_s_brk
      · cases h; exact snd_s_cont
      · cases h; exact snd_s_nev
      · cases h
    · unfold compSs at h
      split at h
      · cases h; exact snd_s_nil
      · split at h
        · rename_i h1 h2
          cases h
          exact snd_s_cons (ihs _ _ h1) (ihss _ _ h2)
        · cases h
end
end DE

/-! DE19: a def keeps what its body tells over data. -/
namespace DE
open PySem PySem.Spec PyProof.Rows L2
open Classical in
noncomputable def frmOf (H : Hp) (vs : List V) (cs : List Cell) : Hp := fun a => if inpAt vs cs a then none else H a
theorem frmOf_in {H : Hp} {vs : List V} {cs : List Cell} {a : Addr} (h : inpAt vs cs a) : frmOf H vs cs a = none := by unfold frmOf; rw [if_pos h]
theorem frmOf_out {H : Hp} {vs : List V} {cs : List Cell} {a : Addr} (h : ¬ inpAt vs cs a) : frmOf H vs cs a = H a := by unfold frmOf; rw [if_neg h]
def parOf (vs : List V) (cs : List Cell) : List (Nat × Addr) := (List.range cs.length).filterMap fun (j : Nat) => match (vs[j]? : Option V), (cs[j]? : Option Cell) with
  | some (V.ref a), some (Cell.inp _) => some (j, a)
  | _, _ => none
theorem parOf_mem {vs : List V} {cs : List Cell} {j : Nat} {a : Addr} : (j, a) ∈ parOf vs cs ↔ vs[j]? = some (.ref a) ∧ ∃ d, cs[j]? = some (.inp d) := by
  unfold parOf
  rw [List.mem_filterMap]
  constructor
  · rintro ⟨i, hi, h⟩
    split at h
    · rename_i b d h1 h2
      cases h
      exact ⟨h1, d, h2⟩
    · cases h
  · rintro ⟨h1, d, h2⟩
    refine ⟨j, ?_, ?_⟩
    · rw [List.mem_range]; exact (List.getElem?_eq_some_iff.mp h2).1
    · rw [h1, h2]
section
variable {K : PySem.W.Frag} {F H : Hp}
theorem ArgC.get : ∀ {vs : List V} {cs : List Cell} {j : Nat} {c : Cell}, ArgC K F H vs cs -> cs[j]? = some c -> ∃ v, vs[j]? = some v ∧ ((∃ d, c = .pure d ∧ Dat K F v d) ∨ ∃ d a, c = .inp d ∧ v = .ref a ∧ OwnAt K F H a d ∧ F a = none)
  | _, _, _, _, .nil, h => by simp at h
  | _, _, 0, _, .pure h1 _, h => by simp at h; subst h; exact ⟨_, rfl, .inl ⟨_, rfl, h1⟩⟩
  | _, _, 0, _, .inp h1 h2 _, h => by simp at h; subst h; exact ⟨_, rfl, .inr ⟨_, _, rfl, rfl, h1, h2⟩⟩
  | _, _, j + 1, _, .pure _ t, h => by
    obtain ⟨v, h1, h2⟩ := ArgC.get (j := j) t (by simpa using h)
    exact ⟨v, by simpa using h1, h2⟩
  | _, _, j + 1, _, .inp _ _ t, h => by
    obtain ⟨v, h1, h2⟩ := ArgC.get (j := j) t (by simpa using h)
    exact ⟨v, by simpa using h1, h2⟩
theorem start_get {N : List Str} {vs : List V} {i : Nat} {v : V} (h : vs[i]? = some v) : (L2.start N vs)[i]? = some (some v) := by
  unfold L2.start
  have hi := (List.getElem?_eq_some_iff.mp h).1
  rw [List.getElem?_append_left (by rw [List.length_map]; exact hi), List.getElem?_map, h]; rfl
theorem start_lt {N : List Str} {vs : List V} {i : Nat} {v : V} (h : (L2.start N vs)[i]? = some (some v)) : vs[i]? = some v := by
  unfold L2.start at h
  by_cases hi : i < vs.length
  · rw [List.getElem?_append_left (by rw [List.length_map]; exact hi), List.getElem?_map] at h
    cases q : vs[i]? with
    | none => rw [q] at h; cases h
    | some w => rw [q] at h; cases h; rfl
  · rw [List.getElem?_append_right (by rw [List.length_map]; omega)] at h
    rw [List.getElem?_replicate] at h
    split at h <;> cases h
def envOf (N : List Str) (cs : List Cell) : DEnv := cs ++ List.replicate (N.length - cs.length) .emp
theorem envOf_get {N : List Str} {cs : List Cell} {i : Nat} {c : Cell} (h : (envOf N cs)[i]? = some c) : c = .emp ∨ cs[i]? = some c := by
  unfold envOf at h
  by_cases hi : i < cs.length
  · rw [List.getElem?_append_left hi] at h; exact .inr h
  · rw [List.getElem?_append_right (by omega), List.getElem?_replicate] at h
    split at h
    · cases h; exact .inl rfl
    · cases h
/-- at the entry -/
theorem rel_start {N : List Str} {vs : List V} {cs : List Cell} (s : Same F H) (h : ArgC K F H vs cs) (ap : Apart vs cs) (hl : cs.length ≤ N.length) : Rel K ⟨F, frmOf H vs cs, parOf vs cs⟩ F (L2.start N vs) H (envOf N cs) := by
  have own : ∀ {i : Nat} {c : Cell}, (envOf N cs)[i]? = some c -> c.isOwn = true -> ∃ d a, cs[i]? = some (.inp d) ∧ vs[i]? = some (.ref a) ∧ OwnAt K F H a d ∧ F a = none := fun {i c} e o => by
    rcases envOf_get e with rfl | e
    · cases o
    · obtain ⟨v, h1, h2⟩ := h.get e
      rcases h2 with ⟨d, rfl, _⟩ | ⟨d, a, rfl, rfl, h3, h4⟩
      · cases o
      · exact ⟨d, a, e, h1, h3, h4⟩
  refine ⟨?_, s, fun a o e => ?_, Same.refl _, fun a e => .inl e, fun i c e => ?_, fun i c a e o w => ?_, fun i j c e a nij h1 o1 h2 o2 w => ?_, fun p hp => ?_, fun i d e => ?_⟩
  · unfold L2.start envOf
    rw [List.length_append, List.length_append, List.length_map, List.length_replicate, List.length_replicate, h.length]
  · have e : frmOf H vs cs a = some o := e
    by_cases z : inpAt vs cs a
    · rw [frmOf_in z] at e; cases e
    · rw [frmOf_out z] at e; exact e
  · rcases envOf_get e with rfl | e
    · trivial
    · obtain ⟨v, h1, h2⟩ := h.get e
      rcases h2 with ⟨d, rfl, h3⟩ | ⟨d, a, rfl, rfl, h3, h4⟩
      · exact ⟨v, start_get h1, h3⟩
      · exact ⟨a, start_get h1, h3⟩
  · obtain ⟨d, b, h1, h2, h3, h4⟩ := own e o
    have w := start_lt w
    rw [h2] at w; cases w
    exact ⟨h4, frmOf_in ⟨i, d, h2, h1⟩⟩
  · obtain ⟨d, b, g1, g2, g3, g4⟩ := own h1 o1
    obtain ⟨d', b', f1, f2, f3, f4⟩ := own h2 o2
    have w := start_lt w
    intro w2
    have w2 := start_lt w2
    exact ap i j a d d' nij w g1 w2 f1
  · obtain ⟨j, a⟩ := p
    obtain ⟨h1, d, h2⟩ := parOf_mem.mp hp
    refine ⟨start_get h1, d, ?_⟩
    unfold envOf
    rw [List.getElem?_append_left (List.getElem?_eq_some_iff.mp h2).1]; exact h2
  · obtain ⟨d', a, h1, h2, _⟩ := own e rfl
    exact ⟨a, parOf_mem.mpr ⟨h2, d', h1⟩, start_get h2⟩
/-- at the end -/
theorem rel_end {vs : List V} {cs : List Cell} {k : Nat} {F' H' : Hp} {σ : L2.St} {δ : DEnv} (hk : cs.length = k) (R : Rel K ⟨F, frmOf H vs cs, parOf vs cs⟩ F' σ H' δ) : CGrw K F H vs cs (outsOf k δ) F' H' := by
  have io : ∀ {j : Nat} {a : Addr} {d : D}, vs[j]? = some (.ref a) -> cs[j]? = some (.inp d) -> F' a = none ∧ ∃ d', δ[j]? = some (.inp d') ∧ OwnAt K F' H' a d' := fun {j a d} h1 h2 => by
    obtain ⟨h3, d', h4⟩ := R.par (j, a) (parOf_mem.mpr ⟨h1, d, h2⟩)
    obtain ⟨b, h5, h6⟩ : SlotR K F' H' σ[j]? (.inp d') := R.slot j _ h4
    have h3 : σ[j]? = some (some (V.ref a)) := h3
    rw [h3] at h5; cases h5
    exact ⟨(R.own j _ a h4 rfl h3).1, d', h4, h6⟩
  refine ⟨R.f0, R.sub, fun a o e z => R.frm a o ((frmOf_out z).trans e), fun a e1 e2 => ?_, fun j a d h1 h2 => ?_⟩
  · rcases R.ext a e2 with z | z
    · exact absurd e1 z
    · have z : frmOf H vs cs a = none := z
      by_cases w : inpAt vs cs a
      · obtain ⟨j, d, h1, h2⟩ := w
        exact absurd (io h1 h2).1 e2
      · rw [frmOf_out w] at z; exact z
  · obtain ⟨h3, d', h4, h5⟩ := io h1 h2
    refine ⟨h3, d', ?_, h5⟩
    unfold outsOf
    rw [List.getElem?_take_of_lt]
    · exact h4
    · rw [← hk]; exact (List.getElem?_eq_some_iff.mp h2).1
theorem res_end {vs : List V} {cs : List Cell} {F' H' : Hp} {σ : L2.St} {δ : DEnv} {v : V} {c : Cell} (R : Rel K ⟨F, frmOf H vs cs, parOf vs cs⟩ F' σ H' δ) (h : ResF K ⟨F, frmOf H vs cs, parOf vs cs⟩ F' H' σ δ v c) : ResC K H F' H' v c := by
  cases c with
  | emp => exact h
  | inp _ => exact h
  | pure d => exact h
  | own d =>
    obtain ⟨a, rfl, h1, h2, h3, h4⟩ := h
    refine ⟨a, rfl, h1, h2, ?_⟩
    have h3 : frmOf H vs cs a = none := h3
    by_cases w : inpAt vs cs a
    · obtain ⟨j, d, g1, g2⟩ := w
      obtain ⟨e1, d', e2⟩ := R.par (j, a) (parOf_mem.mpr ⟨g1, d, g2⟩)
      exact absurd e1 (h4 j _ e2 rfl)
    · rw [frmOf_out w] at h3; exact h3
end
/-! ### the defs of a text -/
/-- one def as it stands, and as it is compiled -/
structure DefAt (K : PySem.W.Frag) (mg : Str -> Option Value) (tab : Str -> Option CDef) (fns : List (Str × List Nat)) (gls : List Str) (f : Str) (a : Addr) (fd : FuncData) (d : CDef) : Prop where
  ex : ∃ qual st n0, Fun K f qual st a fd ∧ fnScopeB d.N d.ps (defScope st) = true ∧ compSs ⟨d.N, defScope st, defScope st, fns, gls⟩ n0 (defBody st) = some d.body
  tab : tab f = some d
  mg : mg f = some (.ref a)
  binds : Binds K fd d.ps []
structure Text (K : PySem.W.Frag) (mg : Str -> Option Value) (tab : Str -> Option CDef) (gl : Str -> Option D) (fns : List (Str × List Nat)) (gls : List Str) : Prop where
  defs : ∀ f io, fns.lookup f = some io -> ∃ a fd d, DefAt K mg tab fns gls f a fd d
  gls : ∀ y, gls.contains y = true -> gl y ≠ none ∧ ∀ dt, gl y = some dt -> ∃ v u, mg y = some u ∧ RelV v u ∧ ∀ F, Dat K F v dt
  blt : ∀ x, x ∈ allB -> mg x = none
section
variable {P : Program} {w : World} {K : PySem.W.Frag} {mg : Str -> Option Value} {base : Heap} {tab : Str -> Option CDef} {gl : Str -> Option D} {fns : List (Str × List Nat)} {gls : List Str} {m : Nat}
theorem spD_no {Γ : Calls} {f : Str} {vs : List V} {H : Hp} {Q : VK} {E : XK} (h : ∀ cs, Γ f cs = .no) : ¬ spD K Γ f vs H Q E := by
  rintro ⟨F, cs, _, _, _, z⟩
  rw [h cs] at z
  exact z
theorem room_in2 {k : Nat} {A : Around} (r : Room (k + 1) A) : Room k A.in1.in1 :=
  ⟨r.hd, by have := r.dp; show A.depth + 3 * k + 5 < _; omega, by have := r.un; show A.units + 1 + 1 + 16 * k + 200 < _; omega⟩
theorem def_ok (T : Text K mg tab gl fns gls) : ∀ (n : Nat) {f : Str} {a : Addr} {fd : FuncData} {d : CDef}, DefAt K mg tab fns gls f a fd d -> FnOk P w K mg base (L2.CX P w) (2 * n) a fd d.ps (spD K (callD tab gl m n) f)
  | 0, f, a, fd, d, _ => ⟨fun vs H Q E h => absurd h (spD_no fun _ => rfl), fun A outer s H args us vs Q E _ _ _ _ h => absurd h (spD_no fun _ => rfl)⟩
  | n + 1, f, a, fd, d, D0 => by
    obtain ⟨qual, st, n0, Fn, hS, hcomp⟩ := D0.ex
    have S := fnScope_of hS
    have hpl : d.ps.length ≤ d.N.length := by have := congrArg List.length S.pre; rw [List.length_take] at this; omega
    have hcall : ∀ cs, callD tab gl m (n + 1) f cs = runBody (callD tab gl m n) gl m d cs := fun cs => by
      simp only [callD, D0.tab]
    show FnOk P w K mg base (L2.CX P w) (2 * n + 1 + 1) a fd d.ps _
    refine Fn.okX S (fun vs H Q E h => ?_) fun cdv A outer s H vs Q E hr hsp => ?_
    · obtain ⟨F, cs, _, h1, _, h2⟩ := h
      rw [hcall] at h2
      unfold runBody at h2
      by_cases hl : cs.length = d.ps.length
      · rw [h1.length, hl]
      · rw [if_neg hl] at h2; exact h2.elim
    · obtain ⟨F, cs, sF, h1, ap, h2⟩ := hsp
      rw [hcall] at h2
      unfold runBody at h2
      by_cases hl : cs.length = d.ps.length
      · rw [if_pos hl] at h2
        have G : Good (callD tab gl m n) gl (fun cls d _ H => E cls d H) ⟨d.N, defScope st, defScope st, fns, gls⟩ (cxOf (L2.CX P w) P w K mg base d.N qual (defScope st) a cdv A outer s H E) := {
          nd := S.nd
          n := rfl
          sc := rfl
          st := fun _ _ => .inl rfl
          calm := rfl
          units := by have := hr.un; show (A.deeper _).units + 100 < cLine; omega
          fns := fun g io hg => by
            obtain ⟨a', fd', d', D1⟩ := T.defs g io hg
            obtain ⟨_, _, _, Fn', _⟩ := D1.ex
            exact ⟨2 * n, a', fd', d'.ps, ⟨hr.mono (by omega), room_in2 (hr.mono (by omega))⟩, D1.mg, Fn'.kp, D1.binds, def_ok T n D1⟩
          gls := T.gls
          blt := T.blt
          tk := takes_of rfl rfl rfl rfl
          po := passes_of rfl }
        refine ⟨_, (snd_S (m := m) G n0).2 _ _ hcomp, ⟨F, frmOf H vs cs, parOf vs cs⟩, F, envOf d.N cs, rel_start sF h1 ap (by omega), ?_⟩
        have eE : cs ++ List.replicate (d.N.length - cs.length) Cell.emp = envOf d.N cs := rfl
        rw [eE] at h2
        cases e : execSs (callD tab gl m n) gl m d.body (envOf d.N cs) with
        | no => rw [e] at h2; exact h2.elim
        | ex ee δ =>
          rw [e] at h2
          exact fun F' H' σ' cls dd R s' r => h2 F' H' cls dd (rel_end hl R) r
        | ok fl δ =>
          rw [e] at h2
          cases fl with
          | nx => exact fun F' H' σ' R s' => h2 F' H' .non (rel_end hl R) .non
          | rt c => exact fun F' H' σ' v R s' r => h2 F' H' v (rel_end hl R) (res_end R r)
          | bk => exact h2.elim
          | ct => exact h2.elim
      · rw [if_neg hl] at h2; exact h2.elim
end
end DE

/-! DE20: the top of a text: its defs, its constants; the law's end. -/
namespace DE
open PySem PySem.Spec PyProof.Rows L2
/-! ### constants of the module -/
def datB (K : PySem.W.Frag) : Nat -> D -> Value -> Bool
  | 0, _, _ => false
  | n + 1, d, u => match d, u with
    | .none, .none => true
    | .bool b, .bool c => decide (b = c)
    | .int i, .int j _ => decide (i = j)
    | .str x, .str y _ => decide (x = y)
    | .tuple ds, .ref a => match K.lookup a with
      | some ⟨.type c, none, .seq its _, _⟩ => decide (c = "tuple") && (decide (its.size ≤ sizeLine) && (decide (ds.length = its.toList.length) && (ds.zip its.toList).all fun p => datB K n p.1 p.2))
      | _ => false
    | .list ds, .ref a => match K.lookup a with
      | some ⟨.type c, none, .seq its _, _⟩ => decide (c = "list") && (decide (its.size ≤ sizeLine) && (decide (ds.length = its.toList.length) && (ds.zip its.toList).all fun p => datB K n p.1 p.2))
      | _ => false
    | _, _ => false
theorem datL_of {K : PySem.W.Frag} {p : D -> Value -> Bool} (hp : ∀ d u, p d u = true -> ∃ v, RelV v u ∧ ∀ F, Dat K F v d) : ∀ (ds : List D) (us : List Value), ds.length = us.length -> ((ds.zip us).all fun q => p q.1 q.2) = true -> ∃ vs, Vals vs us ∧ ∀ F, DatL K F vs ds
  | [], [], _, _ => ⟨[], .nil, fun _ => .nil⟩
  | d :: ds, u :: us, hl, h => by
    rw [List.zip_cons_cons, List.all_cons, Bool.and_eq_true] at h
    obtain ⟨v, r, hv⟩ := hp d u h.1
    obtain ⟨vs, rs, hvs⟩ := datL_of hp ds us (by simpa using hl) h.2
    exact ⟨v :: vs, .cons r rs, fun F => .cons (hv F) (hvs F)⟩
theorem datB_ok {K : PySem.W.Frag} : ∀ (n : Nat) (d : D) (u : Value), datB K n d u = true -> ∃ v, RelV v u ∧ ∀ F, Dat K F v d
  | 0, _, _, h => by unfold datB at h; cases h
  | n + 1, d, u, h => by
    unfold datB at h
    split at h
    · exact ⟨.non, rfl, fun _ => .non⟩
    · cases of_decide_eq_true h; exact ⟨.bl _, rfl, fun _ => .bl _⟩
    · cases of_decide_eq_true h; exact ⟨.int _, ⟨_, rfl⟩, fun _ => .int _⟩
    · cases of_decide_eq_true h; exact ⟨.str _, ⟨_, rfl⟩, fun _ => .str _⟩
    · split at h
      · rename_i ds a _ c its m osl q
        simp only [Bool.and_eq_true, decide_eq_true_eq] at h
        obtain ⟨h1, h2, h3, h4⟩ := h
        obtain ⟨vs, rs, hvs⟩ := datL_of (datB_ok n) _ _ h3 h4
        exact ⟨.ref a, rfl, fun F => .tup ⟨.inr ⟨_, its, m, q, congrArg Value.type h1, rfl, h2, rs⟩, .inr ⟨_, q, rfl⟩⟩ (hvs F)⟩
      · cases h
    · split at h
      · rename_i ds a _ c its m osl q
        simp only [Bool.and_eq_true, decide_eq_true_eq] at h
        obtain ⟨h1, h2, h3, h4⟩ := h
        obtain ⟨vs, rs, hvs⟩ := datL_of (datB_ok n) _ _ h3 h4
        exact ⟨.ref a, rfl, fun F => .lst (.inr ⟨_, its, m, q, congrArg Value.type h1, rfl, rfl, h2, rs⟩) (hvs F)⟩
      · cases h
    · cases h
def conB (K : PySem.W.Frag) (p : Str × D) : Bool := match PySem.W.nsIn K mainGlobals p.1 with
  | some (some u) => datB K 6 p.2 u
  | _ => false
theorem conB_ok {K : PySem.W.Frag} {h : Heap} {mg : Str -> Option Value} {p : Str × D} (X : K.In h) (G : h.Ns mainGlobals mg) (c : conB K p = true) : ∃ v u, mg p.1 = some u ∧ RelV v u ∧ ∀ F, Dat K F v p.2 := by
  unfold conB at c
  split at c
  · rename_i u q
    obtain ⟨v, r, hv⟩ := datB_ok _ _ _ c
    exact ⟨v, u, PySem.W.mg_of X G q, r, hv⟩
  · cases c
/-! ### the Hook -/
abbrev AlE : Type := He.AlD × Bool
def exE (cs : List (Str × D)) (K : PySem.W.Frag) : Bool := cs.all fun p => conB K p
def obsE (n : Nat) (fa : List He.Fa) (fn : List He.DefD) (cs : List (Str × D)) (g : Addr -> Option Obj) : AlE := (He.obsDG n fa fn g, exE cs (He.frG g (He.asD g n)))
def hookE (n : Nat) (fa : List He.Fa) (fn : List He.DefD) (cs : List (Str × D)) : PySem.W.Hook where
  α := AlE
  obs := fun s => obsE n fa fn cs s.heap.get?
  val := fun _ => (He.valD fn, true)
  says := fun _ h => ∃ K : PySem.W.Frag, K.In h ∧ He.SaysD fa fn K ∧ exE cs K = true
  of := fun _ _ e => ⟨_, He.frG_in, congrArg (fun z : AlE => z.1) e, congrArg (fun z : AlE => z.2) e⟩
  keeps := fun _ _ _ ⟨K, hK, c⟩ k => ⟨K, PySem.W.Frag.In.keeps hK k, c⟩
theorem obsE_eq {n : Nat} {fa : List He.Fa} {fn : List He.DefD} {cs : List (Str × D)} {g : Addr -> Option Obj} {s : Shared} (h : ∀ a, g a = s.heap.get? a) : obsE n fa fn cs g = (hookE n fa fn cs).obs s := by
  have e : g = s.heap.get? := funext h
  rw [e] <;> rfl
theorem says_facts {fa : List He.Fa} {fn : List He.DefD} {K : PySem.W.Frag} (c : He.SaysD fa fn K) {f : He.Fa} (h : f ∈ fa) : f.ok K = true := by
  obtain ⟨i, hi, e⟩ := List.mem_iff_getElem.mp h
  exact c.fact i (f := f) (by rw [List.getElem?_eq_getElem hi, e])
theorem says_defs {fa : List He.Fa} {fn : List He.DefD} {K : PySem.W.Frag} (c : He.SaysD fa fn K) {d : He.DefD} (h : d ∈ fn) : ∃ fd, FunD K d.name d.qual d.params d.body d.scope (d.dvs K) (d.kws K) (He.fAd K d.at_) fd := by
  obtain ⟨i, hi, e⟩ := List.mem_iff_getElem.mp h
  exact c.def_ i (d := d) (by rw [List.getElem?_eq_getElem hi, e])
/-! ### the table of a text -/
structure Ent where
  f : Str
  st : Stmt
  io : List Nat
  d : CDef
def AllP {α : Type} (p : α -> Prop) : List α -> Prop
  | [] => True
  | a :: r => p a ∧ AllP p r
theorem AllP.mem {α : Type} {p : α -> Prop} : ∀ {l : List α} {a : α}, AllP p l -> a ∈ l -> p a
  | b :: r, a, h, m => by
    rcases List.mem_cons.mp m with e | m
    · rw [e]; exact h.1
    · exact AllP.mem h.2 m
def fnsOf (es : List Ent) : List (Str × List Nat) := es.map fun e => (e.f, e.io)
def tabOf : List Ent -> Str -> Option CDef
  | [], _ => none
  | e :: r, x => if x = e.f then some e.d else tabOf r x
def glOf (cs : List (Str × D)) (x : Str) : Option D := cs.lookup x
def fdOf (e : Ent) : He.DefD := ⟨(e.f, none), e.f, e.f, defArgs e.st, defBody e.st, defScope e.st, [], []⟩
def faOf (es : List Ent) : List He.Fa := (es.map fun e => .glo e.f) ++ allB.map .free
structure EntOk (es : List Ent) (cs : List (Str × D)) (e : Ent) : Prop where
  sc : fnScopeB e.d.N e.d.ps (defScope e.st) = true
  body : ∃ n, compSs ⟨e.d.N, defScope e.st, defScope e.st, fnsOf es, cs.map (·.1)⟩ n (defBody e.st) = some e.d.body
  binds : ∀ (kV doc pm : Value) (an : Option Addr) (cdv ct : Value) (us : List Value), us.length = e.d.ps.length -> bindArgs (PySem.W.fnOf e.f e.f (defArgs e.st) (defBody e.st) (defScope e.st) .none kV doc pm an cdv ct) ⟨us, []⟩ = pure (e.d.ps.zip us)
theorem fns_mem : ∀ {es : List Ent} {f : Str} {io : List Nat}, (fnsOf es).lookup f = some io -> ∃ e ∈ es, e.f = f ∧ tabOf es f = some e.d
  | [], _, _, h => by cases h
  | e :: r, f, io, h => by
    have h : ((e.f, e.io) :: fnsOf r).lookup f = some io := h
    rw [List.lookup_cons] at h
    unfold tabOf
    by_cases q : f = e.f
    · exact ⟨e, List.mem_cons_self .., q.symm, by rw [if_pos q]⟩
    · have q2 : (f == e.f) = false := by simpa using q
      rw [q2] at h
      obtain ⟨e', h1, h2, h3⟩ := fns_mem (es := r) h
      exact ⟨e', List.mem_cons_of_mem _ h1, h2, by rw [if_neg q]; exact h3⟩
theorem lookup_of_mem {cs : List (Str × D)} {y : Str} (h : (cs.map (·.1)).contains y = true) : ∃ d, cs.lookup y = some d := by
  induction cs with
  | nil => cases h
  | cons p r ih =>
    obtain ⟨x, d⟩ := p
    rw [List.lookup_cons]
    by_cases q : y = x
    · subst q; exact ⟨d, by simp⟩
    · have q2 : (y == x) = false := by simpa using q
      rw [q2]
      refine ih ?_
      rw [List.map_cons, List.contains_cons, q2, Bool.false_or] at h
      exact h
theorem mem_of_lookup' {cs : List (Str × D)} {y : Str} {d : D} (h : cs.lookup y = some d) : (y, d) ∈ cs := by
  induction cs with
  | nil => cases h
  | cons p r ih =>
    obtain ⟨x, e⟩ := p
    rw [List.lookup_cons] at h
    by_cases q : y = x
    · subst q; simp at h; subst h; exact List.mem_cons_self ..
    · have q2 : (y == x) = false := by simpa using q
      rw [q2] at h
      exact List.mem_cons_of_mem _ (ih h)
section
variable {es : List Ent} {cs : List (Str × D)} {K : PySem.W.Frag} {h : Heap} {mg : Str -> Option Value}
theorem def_at (A : AllP (EntOk es cs) es) (X : K.In h) (G : h.Ns mainGlobals mg) (c : He.SaysD (faOf es) (es.map fdOf) K) {e : Ent} (he : e ∈ es) (ht : tabOf es e.f = some e.d) : ∃ fd, DefAt K mg (tabOf es) (fnsOf es) (cs.map (·.1)) e.f (He.ga K e.f) fd e.d ∧ ∀ (s : Shared) (us : List Value), us.length = e.d.ps.length -> BindsTo s fd ⟨us, []⟩ (e.d.ps.zip us) := by
  obtain ⟨fd, F⟩ := says_defs c (List.mem_map.mpr ⟨e, he, rfl⟩)
  have F : FunD K e.f e.f (defArgs e.st) (defBody e.st) (defScope e.st) [] [] (He.ga K e.f) fd := F
  obtain ⟨h1, ⟨n, h2⟩, h3⟩ := A.mem he
  have Fn : Fun K e.f e.f e.st (He.ga K e.f) fd := by
    obtain ⟨oc, od, dV, kV, doc, pm, an, cdv, ct, osl, e1, e2, e3, e4, e5⟩ := F.ex
    rcases e4 with ⟨_, rfl⟩ | ⟨z, _⟩
    · exact ⟨⟨oc, od, kV, doc, pm, an, cdv, ct, osl, e1, e2, e3⟩, F.kp⟩
    · exact absurd rfl z
  exact ⟨fd, ⟨⟨e.f, e.st, n, Fn, h1, h2⟩, ht, He.glo_ok X G (says_facts c (List.mem_append_left _ (List.mem_map.mpr ⟨e, he, rfl⟩))), F.bindsN h3⟩, fun s us hl => F.bindsA h3 s us hl⟩
theorem text_of (A : AllP (EntOk es cs) es) (X : K.In h) (G : h.Ns mainGlobals mg) (c : He.SaysD (faOf es) (es.map fdOf) K) (c2 : exE cs K = true) : Text K mg (tabOf es) (glOf cs) (fnsOf es) (cs.map (·.1)) where
  defs := fun f io hf => by
    obtain ⟨e, he, rfl, ht⟩ := fns_mem hf
    obtain ⟨fd, D0, _⟩ := def_at A X G c he ht
    exact ⟨_, fd, e.d, D0⟩
  gls := fun y hy => by
    obtain ⟨d, hd⟩ := lookup_of_mem hy
    refine ⟨fun z => ?_, fun dt hdt => ?_⟩
    · have z : cs.lookup y = none := z
      rw [hd] at z; cases z
    · have hdt : cs.lookup y = some dt := hdt
      exact conB_ok X G (List.all_eq_true.mp c2 _ (mem_of_lookup' hdt))
  blt := fun x hx => He.free_ok X G (says_facts c (List.mem_append_right _ (List.mem_map.mpr ⟨x, hx, rfl⟩)))
end
/-! ### the law's end -/
theorem law_walk {l : PySem.W.OpenLaw} {n k m : Nat} {q : Program} {loose : List Str} {d : DefRec} {es : List Ent} {cs : List (Str × D)} {N0 : Nat} {e : Ent} {x : Str} {XP : (Str → Option Value) → Heap → Prop}
    (hn : l.most = some n) (hn2 : n ≤ sizeLine) (hdf : d.params.defaults = []) (hr : Room (2 * k) callerA) (A : AllP (EntOk es cs) es) (he : e ∈ es) (ht : tabOf es e.f = some e.d) (hps : e.d.ps = [x]) (hname : d.name = e.f)
    (law : ∀ ns : List Int, ns.length ≤ n -> (∀ z ∈ ns, Builtin.Int.intBits z ≤ 1048576) -> ∃ outs, callD (tabOf es) (glOf cs) m k e.f [.pure (.list (ns.map .int))] = .ret (.pure (.bool true)) outs) :
    PySem.W.WalkO q loose XP (hookE N0 (faOf es) (es.map fdOf) cs).says l.row.toRowW d [] (fun f vs => PySem.call f vs) := by
  refine LamX.walk_ofTsE (CX := fun w => L2.CX l.prog w) (k := 2 * k) (x := x) hn hn2 hdf hr (fun w mg fa h Y G hmg => ?_) fun w H s ev s' z => ?_
  · obtain ⟨K, KX, c, c2⟩ := Y
    rw [hname] at hmg
    have T := text_of A KX G c c2
    obtain ⟨fd, D0, hb⟩ := def_at A KX G c he ht
    have ea := D0.mg.symm.trans hmg
    cases ea
    refine ⟨K, KX, fd, [], spD K (callD (tabOf es) (glOf cs) m k) e.f, fun p hp => (by cases hp), fun p hp => (by cases hp), fun p hp => (by cases hp), fun s u => ?_, fun H a ns h1 h2 _ hS => ?_, fun base hB hG _ => ?_⟩
    · have z := hb s [u] (by rw [hps]; rfl)
      rw [hps] at z
      exact z
    · obtain ⟨outs, hl⟩ := law ns h1 h2
      refine ⟨H, [.pure (.list (ns.map .int))], Same.refl _, .pure (.lst hS (DatL.ofInts ns)) .nil, fun i j b d1 d2 _ _ h4 => ?_, ?_⟩
      · cases i with
        | zero => simp at h4
        | succ i => simp at h4
      · rw [hl]
        intro F' H' v _ hv
        have hv : Dat K F' v (.bool true) := hv
        cases hv; rfl
    · have z := def_ok (P := l.prog) (w := w) (base := base) (m := m) T k D0
      rw [hps] at z
      exact z
  · obtain ⟨_, _, _, _, _, _, _, _, _, _, _, _, z⟩ := z
    exact z
end DE

/-! DE21: loops over data; what every law of the table has. -/
namespace DE
open PySem PySem.Spec PyProof.Rows L2
theorem bind_ok {α β : Type} (a : α) (δ : DEnv) (f : α -> DEnv -> Out β) : Out.bind (.ok a δ) f = f a δ := rfl
theorem bind_ex {α β : Type} (e : Exn) (δ : DEnv) (f : α -> DEnv -> Out β) : Out.bind (.ex e δ) f = .ex e δ := rfl
theorem bind_no {α β : Type} (f : α -> DEnv -> Out β) : Out.bind .no f = .no := rfl
theorem lcLoop_map {one : D -> DEnv -> Out (Option D)} {f : D -> D} {δ : DEnv} : ∀ (ds acc : List D), (∀ d ∈ ds, one d δ = .ok (some (f d)) δ) -> acc.length + ds.length ≤ sizeLine -> lcLoop one ds acc δ = .ok (acc ++ ds.map f) δ
  | [], acc, _, _ => by simp [lcLoop]
  | d :: ds, acc, h, hl => by
    rw [List.length_cons] at hl
    simp only [lcLoop]
    rw [h d (List.mem_cons_self ..)]
    simp only
    rw [if_pos (by omega), lcLoop_map ds (acc ++ [f d]) (fun e he => h e (List.mem_cons_of_mem _ he)) (by rw [List.length_append, List.length_singleton]; omega)]
    simp
theorem lcLoop_sel {one : D -> DEnv -> Out (Option D)} {f : D -> D} {g : D -> Bool} {δ : DEnv} : ∀ (ds acc : List D), (∀ d ∈ ds, one d δ = .ok (if g d = true then some (f d) else none) δ) -> acc.length + ds.length ≤ sizeLine -> lcLoop one ds acc δ = .ok (acc ++ (ds.filter g).map f) δ
  | [], acc, _, _ => by simp [lcLoop]
  | d :: ds, acc, h, hl => by
    rw [List.length_cons] at hl
    simp only [lcLoop]
    rw [h d (List.mem_cons_self ..)]
    by_cases hg : g d = true
    · rw [if_pos hg]
      simp only
      rw [if_pos (by omega), lcLoop_sel ds (acc ++ [f d]) (fun e he => h e (List.mem_cons_of_mem _ he)) (by rw [List.length_append, List.length_singleton]; omega)]
      simp [List.filter_cons, hg]
    · rw [if_neg hg]
      simp only
      rw [lcLoop_sel ds acc (fun e he => h e (List.mem_cons_of_mem _ he)) (by omega)]
      simp [List.filter_cons, hg]
theorem lcLoop_mapL {α : Type} {one : D -> DEnv -> Out (Option D)} {g f : α -> D} {δ : DEnv} : ∀ (xs : List α) (acc : List D), (∀ x ∈ xs, one (g x) δ = .ok (some (f x)) δ) -> acc.length + xs.length ≤ sizeLine -> lcLoop one (xs.map g) acc δ = .ok (acc ++ xs.map f) δ
  | [], acc, _, _ => by simp [lcLoop]
  | d :: ds, acc, h, hl => by
    rw [List.length_cons] at hl
    simp only [List.map_cons, lcLoop]
    rw [h d (List.mem_cons_self ..)]
    simp only
    rw [if_pos (by omega), lcLoop_mapL ds (acc ++ [f d]) (fun e he => h e (List.mem_cons_of_mem _ he)) (by rw [List.length_append, List.length_singleton]; omega)]
    simp
theorem lcLoop_selL {α : Type} {one : D -> DEnv -> Out (Option D)} {g f : α -> D} {p : α -> Bool} {δ : DEnv} : ∀ (xs : List α) (acc : List D), (∀ x ∈ xs, one (g x) δ = .ok (if p x = true then some (f x) else none) δ) -> acc.length + xs.length ≤ sizeLine -> lcLoop one (xs.map g) acc δ = .ok (acc ++ (xs.filter p).map f) δ
  | [], acc, _, _ => by simp [lcLoop]
  | d :: ds, acc, h, hl => by
    rw [List.length_cons] at hl
    simp only [List.map_cons, lcLoop]
    rw [h d (List.mem_cons_self ..)]
    by_cases hg : p d = true
    · rw [if_pos hg]
      simp only
      rw [if_pos (by omega), lcLoop_selL ds (acc ++ [f d]) (fun e he => h e (List.mem_cons_of_mem _ he)) (by rw [List.length_append, List.length_singleton]; omega)]
      simp [List.filter_cons, hg]
    · rw [if_neg hg]
      simp only
      rw [lcLoop_selL ds acc (fun e he => h e (List.mem_cons_of_mem _ he)) (by omega)]
      simp [List.filter_cons, hg]
theorem boolsOf_map {α : Type} (p : α -> Bool) : ∀ xs : List α, boolsOf (xs.map fun x => .bool (p x)) = some (xs.map p)
  | [] => rfl
  | x :: xs => by simp only [List.map_cons, boolsOf, boolsOf_map p xs]; rfl
theorem all_map {α : Type} (p : α -> Bool) (xs : List α) : (xs.map p).all id = xs.all p := by
  rw [List.all_map]; rfl
theorem any_map {α : Type} (p : α -> Bool) (xs : List α) : (xs.map p).any id = xs.any p := by
  rw [List.any_map]; rfl
theorem lc_eval {α : Type} {Γ : Calls} {gl : Str -> Option D} {elt : CE} {tg : CT} {it : CI} {cond : CO} {own : List Nat} {δ δ1 δ2 : DEnv} {xs : List α} {g f : α -> D} (h1 : evalI Γ gl it δ = .ok (xs.map g) δ1) (h2 : (own.all (plainAt δ1) && tg.slots.all (own.contains ·)) = true)
    (h3 : ∀ x ∈ xs, (match asgD tg (g x) (wipeE δ1 own) with
          | some δ2 => (evalC Γ gl cond δ2).bind fun b δ3 => if b = true then (evalE Γ gl elt δ3).bind fun r δ4 => (esc r δ4).bind fun y δ5 => Out.ok (some y) (wipeE δ5 own) else .ok none (wipeE δ3 own)
          | none => .no) = .ok (some (f x)) (wipeE δ1 own)) (h4 : xs.length ≤ sizeLine) (h5 : rstE δ1 (wipeE δ1 own) own = δ2) : evalE Γ gl (.lc elt tg it cond own) δ = .ok (.own (.list (xs.map f))) δ2 := by
  unfold evalE
  rw [h1, bind_ok, if_pos h2]
  generalize hone : lcLoop _ _ _ _ = L
  have z := lcLoop_mapL (one := fun d δ => match asgD tg d δ with
          | some δ2 => (evalC Γ gl cond δ2).bind fun b δ3 => if b = true then (evalE Γ gl elt δ3).bind fun r δ4 => (esc r δ4).bind fun y δ5 => Out.ok (some y) (wipeE δ5 own) else .ok none (wipeE δ3 own)
          | none => .no) (g := g) (f := f) (δ := wipeE δ1 own) xs [] h3 (by simpa using h4)
  have e := hone.symm.trans z
  subst e
  rw [List.nil_append]
  simp only [h5]
theorem lc_sel {α : Type} {Γ : Calls} {gl : Str -> Option D} {elt : CE} {tg : CT} {it : CI} {cond : CO} {own : List Nat} {δ δ1 δ2 : DEnv} {xs : List α} {g f : α -> D} {p : α -> Bool} (h1 : evalI Γ gl it δ = .ok (xs.map g) δ1) (h2 : (own.all (plainAt δ1) && tg.slots.all (own.contains ·)) = true)
    (h3 : ∀ x ∈ xs, (match asgD tg (g x) (wipeE δ1 own) with
          | some δ2 => (evalC Γ gl cond δ2).bind fun b δ3 => if b = true then (evalE Γ gl elt δ3).bind fun r δ4 => (esc r δ4).bind fun y δ5 => Out.ok (some y) (wipeE δ5 own) else .ok none (wipeE δ3 own)
          | none => .no) = .ok (if p x = true then some (f x) else none) (wipeE δ1 own)) (h4 : xs.length ≤ sizeLine) (h5 : rstE δ1 (wipeE δ1 own) own = δ2) : evalE Γ gl (.lc elt tg it cond own) δ = .ok (.own (.list ((xs.filter p).map f))) δ2 := by
  unfold evalE
  rw [h1, bind_ok, if_pos h2]
  generalize hone : lcLoop _ _ _ _ = L
  have z := lcLoop_selL (one := fun d δ => match asgD tg d δ with
          | some δ2 => (evalC Γ gl cond δ2).bind fun b δ3 => if b = true then (evalE Γ gl elt δ3).bind fun r δ4 => (esc r δ4).bind fun y δ5 => Out.ok (some y) (wipeE δ5 own) else .ok none (wipeE δ3 own)
          | none => .no) (g := g) (f := f) (p := p) (δ := wipeE δ1 own) xs [] h3 (by simpa using h4)
  have e := hone.symm.trans z
  subst e
  rw [List.nil_append]
  simp only [h5]
/-! ### strings -/
abbrev chD (c : Nat) : D := .str ⟨#[c]⟩
theorem cut_from (z : Str) (k : Nat) : cutS z (some (k : Int)) none = ⟨(z.cps.toList.drop k).toArray⟩ := by
  unfold cutS
  congr 1
  congr 1
  rw [HT.sIx_nat, HT.sIx_none]
  have e : z.length = z.cps.toList.length := by simp [Str.length]
  rw [e]
  generalize z.cps.toList = l
  by_cases h : k ≤ l.length
  · rw [Nat.min_eq_left h]
    exact List.take_of_length_le (by rw [List.length_drop]; exact Nat.le_refl _)
  · rw [Nat.min_eq_right (by omega), List.drop_of_length_le (Nat.le_refl _), List.drop_of_length_le (by omega), List.take_nil]
theorem cut_to (z : Str) (k : Nat) : cutS z none (some (k : Int)) = ⟨(z.cps.toList.take k).toArray⟩ := by
  unfold cutS
  congr 1
  congr 1
  rw [HT.sIx_nat, HT.sIx_none]
  have e : z.length = z.cps.toList.length := by simp [Str.length]
  rw [e, List.drop_zero, Nat.sub_zero]
  generalize z.cps.toList = l
  by_cases h : k ≤ l.length
  · rw [Nat.min_eq_left h]
  · rw [Nat.min_eq_right (by omega), List.take_of_length_le (Nat.le_refl _), List.take_of_length_le (by omega)]
theorem cut_1 (z : Str) : cutS z (some 1) none = ⟨(z.cps.toList.drop 1).toArray⟩ := cut_from z 1
theorem isOne_ch (c : Nat) : isOne ⟨#[c]⟩ = some c := rfl
theorem str_len (z : Str) : z.length = z.cps.toList.length := by simp [Str.length]
theorem eqOk_str (s : Str) : eqOk (.str s) = true := by rfl
theorem eqv_str (a b : Str) : PyData.eqv (.str a) (.str b) = (a == b) := by simp only [PyData.eqv]
theorem forLoop_ind {body : D -> DEnv -> Out Fl} (P : Nat -> DEnv -> Prop) : ∀ (ds : List D) (i : Nat) (δ : DEnv), P i δ -> (∀ j d δ, ds[j]? = some d -> P (i + j) δ -> ∃ δ', (body d δ = .ok .nx δ' ∨ body d δ = .ok .ct δ') ∧ P (i + j + 1) δ') -> ∃ δ', forLoop body ds δ = .ok .nx δ' ∧ P (i + ds.length) δ'
  | [], i, δ, h, _ => ⟨δ, by simp [forLoop], h⟩
  | d :: ds, i, δ, h, st => by
    obtain ⟨δ1, e, h1⟩ := st 0 d δ rfl h
    obtain ⟨δ2, e2, h2⟩ := forLoop_ind P ds (i + 1) δ1 h1 fun j d' δ' hj hp => by
      have z := st (j + 1) d' δ' (by simpa using hj)
      rw [show i + (j + 1) = i + 1 + j by omega] at z
      exact z hp
    refine ⟨δ2, ?_, by rw [List.length_cons]; rw [show i + (ds.length + 1) = i + 1 + ds.length by omega]; exact h2⟩
    simp only [forLoop]
    rcases e with e | e <;> rw [e] <;> exact e2
/-! ### the state of a draw -/
def StOk (a b : Int) : Prop := 0 ≤ a ∧ 0 ≤ b ∧ b < 2147483648
abbrev stD (a b : Int) : D := .list [.int a, .int b]
def bPick : CSs := (.cons (.ifs (.cmp .Gt (.idx (.slot 0) (.con (.int 0))) (.con (.int 0))) (.cons (.asg 2 (.bin .Mod (.idx (.slot 0) (.con (.int 0))) (.slot 1))) (.cons (.seti 0 (.con (.int 0)) (.bin .FloorDiv (.idx (.slot 0) (.con (.int 0))) (.slot 1))) (.cons (.ret (.slot 2)) .nil))) .nil) (.cons (.seti 0 (.con (.int 1)) (.bin .Add (.bin .Mod (.bin .Mult (.idx (.slot 0) (.con (.int 1))) (.con (.int 48271))) (.con (.int 2147483647))) (.con (.int 1)))) (.cons (.asg 3 (.bin .Mod (.bin .Mult (.bin .Mod (.bin .Mult (.idx (.slot 0) (.con (.int 1))) (.idx (.slot 0) (.con (.int 1)))) (.con (.int 2147483629))) (.con (.int 69621))) (.con (.int 2147483587)))) (.cons (.ret (.bin .Mod (.bin .FloorDiv (.slot 3) (.con (.int 8))) (.slot 1))) .nil))))
def dPick : CDef := ⟨["state", "many"], ["state", "many", "found", "mixed"], bPick⟩
def bState : CSs := (.cons (.asg 1 (.blt .abs (.cons (.slot 0) .nil))) (.cons (.ifs (.cmp .GtE (.slot 1) (.bin .Pow (.con (.int 10)) (.con (.int 18)))) (.cons (.ret (.lst (.cons (.slot 1) (.cons (.bin .Add (.bin .Mod (.slot 1) (.con (.int 1000000007))) (.con (.int 1))) .nil)))) .nil) .nil) (.cons (.ret (.lst (.cons (.con (.int 0)) (.cons (.bin .Add (.bin .Mod (.bin .Add (.bin .Mult (.bin .Mod (.slot 1) (.con (.int 1000000007))) (.con (.int 48271))) (.con (.int 977))) (.con (.int 2147483647))) (.con (.int 1))) .nil)))) .nil)))
def dState : CDef := ⟨["cell"], ["cell", "size"], bState⟩
theorem mulOk_r {i j : Int} (h : -(2 ^ 64) < j ∧ j < 2 ^ 64) : mulOk i j = true := by
  unfold mulOk
  have z : sizeB 18446744073709551616 j = true := sizeB_iff.mpr ⟨by have := h.1; omega, by have := h.2; omega⟩
  rw [z, Bool.or_true]
theorem mulOk_c (x : Int) : mulOk x 48271 = true := mulOk_r (by omega)
theorem at0 {a b : Int} : atI [PyData.int a, PyData.int b] 0 = some (.int a) := rfl
theorem at1 {a b : Int} : atI [PyData.int a, PyData.int b] 1 = some (.int b) := rfl
section
variable {tab : Str -> Option CDef} {gl : Str -> Option D} {m : Nat}
theorem callD_at {tab : Str -> Option CDef} {gl : Str -> Option D} {m k : Nat} {f : Str} {d : CDef} (h : tab f = some d) (args : List Cell) : callD tab gl m (k + 1) f args = runBody (callD tab gl m k) gl m d args := by simp only [callD, h]
theorem atI_in {α : Type} {xs : List α} {i : Int} (h1 : 0 ≤ i) (h2 : i < xs.length) : ∃ d, atI xs i = some d ∧ d ∈ xs := by
  obtain ⟨j, rfl⟩ := Int.eq_ofNat_of_zero_le h1
  have hj : j < xs.length := by omega
  exact ⟨xs[j], atI_nat (List.getElem?_eq_getElem hj), List.getElem_mem hj⟩
theorem size2 : (2 ≤ sizeLine) = True := by simp [sizeLine]
theorem state_ok (ht : tab "_law_state" = some dState) (k : Nat) (c : Int) : ∃ a b, callD tab gl m (k + 1) "_law_state" [.pure (.int c)] = .ret (.own (stD a b)) [.pure (.int c)] ∧ StOk a b := by
  by_cases hc : (1000000000000000000 : Int) ≤ if c < 0 then -c else c
  · refine ⟨_, _, by rw [callD_at ht]; simp [dState, bState, hc, runBody, execSs, execS, evalE, evalT, evalEs, evalRs, evalAs, evalI, evalO, evalC, bind_ok, bind_ex, bind_no, settle, rd, Cell.rd, bltD, lenD, ofO, tk, asgC, two, rdTo, cmpD, ordD, binD, truthD, esc, retV, outsOf, setC, hasV, setD, Cell.isOwn, backTo1, idxD, callA, arCells, arCell, refsOf, putBack, size2]; exact ⟨rfl, rfl⟩, ?_⟩
    unfold StOk; omega
  · refine ⟨_, _, by rw [callD_at ht]; simp [dState, bState, hc, mulOk_c, runBody, execSs, execS, evalE, evalT, evalEs, evalRs, evalAs, evalI, evalO, evalC, bind_ok, bind_ex, bind_no, settle, rd, Cell.rd, bltD, lenD, ofO, tk, asgC, two, rdTo, cmpD, ordD, binD, truthD, esc, retV, outsOf, setC, hasV, setD, Cell.isOwn, backTo1, idxD, callA, arCells, arCell, refsOf, putBack, size2]; exact ⟨rfl, rfl⟩, ?_⟩
    unfold StOk; omega
theorem ix0 : ixN 2 0 = some 0 := rfl
theorem ix1 : ixN 2 1 = some 1 := rfl
theorem pick_ok (ht : tab "_law_pick" = some dPick) (k : Nat) (a b n : Int) (hs : StOk a b) (hn : 0 < n) (hn2 : n < 2 ^ 200) : ∃ r a' b', callD tab gl m (k + 1) "_law_pick" [.inp (stD a b), .pure (.int n)] = .ret (.pure (.int r)) [.inp (stD a' b'), .pure (.int n)] ∧ StOk a' b' ∧ 0 ≤ r ∧ r < n := by
  obtain ⟨h1, h2, h3⟩ := hs
  have hd : divOk n = true := divOk_small hn hn2
  by_cases hc : 0 < a
  · refine ⟨_, _, _, by rw [callD_at ht]; simp [dPick, bPick, hc, at0, at1, ix0, ix1, hn, hd, runBody, execSs, execS, evalE, evalT, evalEs, evalRs, evalAs, evalI, evalO, evalC, bind_ok, bind_ex, bind_no, settle, rd, Cell.rd, bltD, lenD, ofO, tk, asgC, two, rdTo, cmpD, ordD, binD, truthD, esc, retV, outsOf, setC, hasV, setD, Cell.isOwn, backTo1, idxD, callA, arCells, arCell, refsOf, putBack, size2]; first | exact ⟨rfl, rfl, rfl⟩ | exact ⟨rfl, rfl⟩ | rfl, ⟨?_, h2, h3⟩, Int.emod_nonneg _ (by omega), Int.emod_lt_of_pos _ hn⟩
    exact Int.ediv_nonneg h1 (by omega)
  · have hm : mulOk (b * 48271 % 2147483647 + 1) (b * 48271 % 2147483647 + 1) = true := mulOk_r (by omega)
    have h8 : divOk 8 = true := divOk_small (by omega) (by omega)
    have m1 : ∀ x, mulOk x 48271 = true := fun x => mulOk_r (by omega)
    have m2 : ∀ x, mulOk x 69621 = true := fun x => mulOk_r (by omega)
    refine ⟨_, _, _, by rw [callD_at ht]; simp [dPick, bPick, hc, at0, at1, ix0, ix1, hn, hd, hm, h8, m1, m2, runBody, execSs, execS, evalE, evalT, evalEs, evalRs, evalAs, evalI, evalO, evalC, bind_ok, bind_ex, bind_no, settle, rd, Cell.rd, bltD, lenD, ofO, tk, asgC, two, rdTo, cmpD, ordD, binD, truthD, esc, retV, outsOf, setC, hasV, setD, Cell.isOwn, backTo1, idxD, callA, arCells, arCell, refsOf, putBack, size2]; first | exact ⟨rfl, rfl, rfl⟩ | exact ⟨rfl, rfl⟩ | rfl, ⟨h1, by omega, by omega⟩, Int.emod_nonneg _ (by omega), Int.emod_lt_of_pos _ hn⟩
end
end DE

/-! DE22: texts that name things: the program's look at them, the laws' own. -/
namespace DE.Lib
open PySem PySem.Spec PyProof.Rows L2
def c1_is_wordlike : CE := (.lc (.orr (.cmp .In (.slot 2) (.glb "SMALL")) (.cmp .In (.slot 2) (.glb "FIGURES"))) (.nm 2) (.val (.slc (.slot 0) (.som (.con (.int 1))) .non)) .non [2])
def b_is_wordlike : CSs := (.cons (.ifs (.orr (.nt (.isi (.slot 0) .str)) (.orr (.cmp .Lt (.blt .len (.cons (.slot 0) .nil)) (.con (.int 1))) (.orr (.cmp .Gt (.blt .len (.cons (.slot 0) .nil)) (.glb "MOST_SIGNS")) (.cmp .NotIn (.idx (.slot 0) (.con (.int 0))) (.slot 1))))) (.cons (.ret (.con (.bool false))) .nil) .nil) (.cons (.ret (.blt .all (.cons c1_is_wordlike .nil))) .nil))
def d_is_wordlike : CDef := ⟨["thing", "first"], ["thing", "first", "sign"], b_is_wordlike⟩
def b_is_name : CSs := (.cons (.ret (.an (.call "is_wordlike" (.val (.slot 0) (.val (.glb "SMALL") .nil))) (.cmp .NotIn (.slot 0) (.glb "KEPT")))) .nil)
def d_is_name : CDef := ⟨["thing"], ["thing"], b_is_name⟩
def b_is_variable : CSs := (.cons (.ret (.call "is_wordlike" (.val (.slot 0) (.val (.glb "GREAT") .nil)))) .nil)
def d_is_variable : CDef := ⟨["thing"], ["thing"], b_is_variable⟩
def b_is_value : CSs := (.cons (.ifs (.isi (.slot 0) .str) (.cons (.ret (.call "is_name" (.val (.slot 0) .nil))) .nil) .nil) (.cons (.ret (.cmp2 .Lt .Lt (.neg (.glb "MOST_NUMBER")) (.slot 0) (.glb "MOST_NUMBER"))) .nil))
def d_is_value : CDef := ⟨["thing"], ["thing"], b_is_value⟩
def b__law_named : CSs := (.cons (.ifs (.cmp .In (.slot 0) (.lst (.cons (.con (.str "not")) (.cons (.con (.str "count")) (.cons (.con (.str "sum")) (.cons (.con (.str "least")) (.cons (.con (.str "most")) .nil))))))) (.cons (.ret (.con (.bool false))) .nil) .nil) (.cons (.ret (.call "_law_wordy" (.val (.slot 0) (.val (.con (.str "abcdefghijklmnopqrstuvwxyz")) .nil)))) .nil))
def d__law_named : CDef := ⟨["text"], ["text"], b__law_named⟩
def c1__law_wordy : CE := (.lc (.cmp .In (.slot 3) (.slot 2)) (.nm 3) (.val (.slc (.slot 0) (.som (.con (.int 1))) .non)) .non [3])
def b__law_wordy : CSs := (.cons (.asg 2 (.con (.str "abcdefghijklmnopqrstuvwxyz0123456789"))) (.cons (.ifs (.orr (.cmp .Eq (.slot 0) (.con (.str ""))) (.orr (.cmp .Gt (.blt .len (.cons (.slot 0) .nil)) (.con (.int 12))) (.cmp .NotIn (.idx (.slot 0) (.con (.int 0))) (.slot 1)))) (.cons (.ret (.con (.bool false))) .nil) .nil) (.cons (.ret (.blt .all (.cons c1__law_wordy .nil))) .nil)))
def d__law_wordy : CDef := ⟨["text", "first"], ["text", "first", "signs", "sign"], b__law_wordy⟩
def b__law_truth : CSs := (.cons (.ret (.an (.isi (.slot 0) .bool) (.cmp .Eq (.slot 0) (.slot 1)))) .nil)
def d__law_truth : CDef := ⟨["found", "due"], ["found", "due"], b__law_truth⟩
section
variable {m : Nat} {tab : Str -> Option CDef} {gl : Str -> Option D}
abbrev sSM : Str := "abcdefghijklmnopqrstuvwxyz"
abbrev sFI : Str := "0123456789"
abbrev sGR : Str := "ABCDEFGHIJKLMNOPQRSTUVWXYZ"
abbrev sSG : Str := "abcdefghijklmnopqrstuvwxyz0123456789"
def sgA (c : Nat) : Bool := hasCh c sSM || hasCh c sFI
def wlL (first : Str) : List Nat -> Bool
  | [] => false
  | c :: r => decide (r.length < 12) && (hasCh c first && r.all sgA)
structure WlH (tab : Str -> Option CDef) (gl : Str -> Option D) : Prop where
  wl : tab "is_wordlike" = some d_is_wordlike
  sm : gl "SMALL" = some (.str sSM)
  fi : gl "FIGURES" = some (.str sFI)
  ms : gl "MOST_SIGNS" = some (.int 12)
theorem small {n : Nat} (h : n ≤ 1000) : n ≤ sizeLine := Nat.le_trans h (by decide)
theorem sg_eq (c : Nat) : hasCh c sSG = sgA c := by
  have e : sSG.cps.toList = sSM.cps.toList ++ sFI.cps.toList := by decide +kernel
  unfold sgA hasCh
  rw [e]
  simp only [List.mem_append, Bool.decide_or]
theorem cut_cons (c : Nat) (r : List Nat) : cutS ⟨(c :: r).toArray⟩ (some 1) none = ⟨r.toArray⟩ := by rw [cut_1]; rfl
theorem ats (c : Nat) (r : List Nat) : atI (c :: r) 0 = some c := atI_nat (xs := c :: r) (j := 0) rfl
theorem wordlike_str (H : WlH tab gl) (k : Nat) (l : List Nat) (first : Str) (hl : l.length ≤ 1000) : callD tab gl m (k + 1) "is_wordlike" [.pure (.str ⟨l.toArray⟩), .pure (.str first)] = .ret (.pure (.bool (wlL first l))) [.pure (.str ⟨l.toArray⟩), .pure (.str first)] := by
  have hs := small hl
  cases l with
  | nil => rw [callD_at H.wl]; simp [d_is_wordlike, b_is_wordlike, wlL, runBody, execSs, execS, evalE, evalT, evalEs, evalRs, evalAs, evalI, evalO, evalC, bind_ok, bind_ex, bind_no, settle, rd, Cell.rd, bltD, lenD, ofO, tk, asgC, two, rdTo, cmpD, ordD, binD, truthD, esc, retV, outsOf, setC, hasV, setD, Cell.isOwn, backTo1, idxD, callA, arCells, arCell, refsOf, putBack, size2, isiD, Str.length]
  | cons c r =>
    have hz : r.length + 1 ≤ sizeLine := by simpa using hs
    have hcomp : evalE (callD tab gl m k) gl c1_is_wordlike [.pure (.str ⟨(c :: r).toArray⟩), .pure (.str first), .emp] = .ok (.own (.list (r.map fun c => .bool (sgA c)))) [.pure (.str ⟨(c :: r).toArray⟩), .pure (.str first), .emp] := by
      refine lc_eval (xs := r) (g := chD) (δ1 := [.pure (.str ⟨(c :: r).toArray⟩), .pure (.str first), .emp]) ?_ (by rfl) (fun x hx => ?_) (by omega) (by rfl)
      · simp [runBody, execSs, execS, evalE, evalT, evalEs, evalRs, evalAs, evalI, evalO, evalC, bind_ok, bind_ex, bind_no, settle, rd, Cell.rd, bltD, lenD, ofO, tk, asgC, two, rdTo, cmpD, ordD, binD, truthD, esc, retV, outsOf, setC, hasV, setD, Cell.isOwn, backTo1, idxD, callA, arCells, arCell, refsOf, putBack, size2, slcD, Str.length, hz, cut_cons, itemsD]
      · cases h1 : hasCh x sSM <;> simp [runBody, execSs, execS, evalE, evalT, evalEs, evalRs, evalAs, evalI, evalO, evalC, bind_ok, bind_ex, bind_no, settle, rd, Cell.rd, bltD, lenD, ofO, tk, asgC, two, rdTo, cmpD, ordD, binD, truthD, esc, retV, outsOf, setC, hasV, setD, Cell.isOwn, backTo1, idxD, callA, arCells, arCell, refsOf, putBack, size2, asgD, wipeE, H.sm, H.fi, inD, isOne_ch, h1, sgA]
    by_cases h1 : 12 < r.length + 1
    · have h2 : ¬ r.length < 12 := by omega
      have h3 : ¬ (r.length : Int) + 1 < 1 := by omega
      have h5 : (12 : Int) < (r.length : Int) + 1 := by omega
      rw [callD_at H.wl]; simp [h3, h5, d_is_wordlike, b_is_wordlike, wlL, runBody, execSs, execS, evalE, evalT, evalEs, evalRs, evalAs, evalI, evalO, evalC, bind_ok, bind_ex, bind_no, settle, rd, Cell.rd, bltD, lenD, ofO, tk, asgC, two, rdTo, cmpD, ordD, binD, truthD, esc, retV, outsOf, setC, hasV, setD, Cell.isOwn, backTo1, idxD, callA, arCells, arCell, refsOf, putBack, size2, isiD, Str.length, H.ms, hz, h1, h2]
    · have h2 : r.length < 12 := by omega
      have h3 : ¬ (r.length : Int) + 1 < 1 := by omega
      have h5 : ¬ (12 : Int) < (r.length : Int) + 1 := by omega
      rw [callD_at H.wl]; cases h4 : hasCh c first <;> simp [h5, d_is_wordlike, b_is_wordlike, wlL, runBody, execSs, execS, evalE, evalT, evalEs, evalRs, evalAs, evalI, evalO, evalC, bind_ok, bind_ex, bind_no, settle, rd, Cell.rd, bltD, lenD, ofO, tk, asgC, two, rdTo, cmpD, ordD, binD, truthD, esc, retV, outsOf, setC, hasV, setD, Cell.isOwn, backTo1, idxD, callA, arCells, arCell, refsOf, putBack, size2, isiD, Str.length, H.ms, hz, h1, h2, h3, h4, ats, inD, isOne_ch, hcomp, boolsOf_map, all_map]
theorem wordlike_int (H : WlH tab gl) (k : Nat) (n : Int) (first : Str) : callD tab gl m (k + 1) "is_wordlike" [.pure (.int n), .pure (.str first)] = .ret (.pure (.bool false)) [.pure (.int n), .pure (.str first)] := by
  rw [callD_at H.wl]; simp [d_is_wordlike, b_is_wordlike, runBody, execSs, execS, evalE, evalT, evalEs, evalRs, evalAs, evalI, evalO, evalC, bind_ok, bind_ex, bind_no, settle, rd, Cell.rd, bltD, lenD, ofO, tk, asgC, two, rdTo, cmpD, ordD, binD, truthD, esc, retV, outsOf, setC, hasV, setD, Cell.isOwn, backTo1, idxD, callA, arCells, arCell, refsOf, putBack, size2, isiD]
theorem eqE (l : List Nat) : (({ cps := l.toArray } : Str) == Str.ofString "") = l.isEmpty := by
  have e : (Str.ofString "") = ⟨[].toArray⟩ := by decide +kernel
  rw [e]
  cases l with
  | nil => rfl
  | cons c r =>
    have : ({ cps := (c :: r).toArray } : Str) ≠ ⟨[].toArray⟩ := fun h => by simp at h
    simpa using this
theorem wordy_str (hw : tab "_law_wordy" = some d__law_wordy) (k : Nat) (l : List Nat) (first : Str) (hl : l.length ≤ 1000) : callD tab gl m (k + 1) "_law_wordy" [.pure (.str ⟨l.toArray⟩), .pure (.str first)] = .ret (.pure (.bool (wlL first l))) [.pure (.str ⟨l.toArray⟩), .pure (.str first)] := by
  have hs := small hl
  cases l with
  | nil => rw [callD_at hw]; simp [d__law_wordy, b__law_wordy, wlL, runBody, execSs, execS, evalE, evalT, evalEs, evalRs, evalAs, evalI, evalO, evalC, bind_ok, bind_ex, bind_no, settle, rd, Cell.rd, bltD, lenD, ofO, tk, asgC, two, rdTo, cmpD, ordD, binD, truthD, esc, retV, outsOf, setC, hasV, setD, Cell.isOwn, backTo1, idxD, callA, arCells, arCell, refsOf, putBack, size2, eqD, eqOk_str, eqv_str, eqE]
  | cons c r =>
    have hz : r.length + 1 ≤ sizeLine := by simpa using hs
    have hcomp : evalE (callD tab gl m k) gl c1__law_wordy [.pure (.str ⟨(c :: r).toArray⟩), .pure (.str first), .pure (.str sSG), .emp] = .ok (.own (.list (r.map fun c => .bool (sgA c)))) [.pure (.str ⟨(c :: r).toArray⟩), .pure (.str first), .pure (.str sSG), .emp] := by
      refine lc_eval (xs := r) (g := chD) (δ1 := [.pure (.str ⟨(c :: r).toArray⟩), .pure (.str first), .pure (.str sSG), .emp]) ?_ (by rfl) (fun x hx => ?_) (by omega) (by rfl)
      · simp [runBody, execSs, execS, evalE, evalT, evalEs, evalRs, evalAs, evalI, evalO, evalC, bind_ok, bind_ex, bind_no, settle, rd, Cell.rd, bltD, lenD, ofO, tk, asgC, two, rdTo, cmpD, ordD, binD, truthD, esc, retV, outsOf, setC, hasV, setD, Cell.isOwn, backTo1, idxD, callA, arCells, arCell, refsOf, putBack, size2, slcD, Str.length, hz, cut_cons, itemsD]
      · simp [runBody, execSs, execS, evalE, evalT, evalEs, evalRs, evalAs, evalI, evalO, evalC, bind_ok, bind_ex, bind_no, settle, rd, Cell.rd, bltD, lenD, ofO, tk, asgC, two, rdTo, cmpD, ordD, binD, truthD, esc, retV, outsOf, setC, hasV, setD, Cell.isOwn, backTo1, idxD, callA, arCells, arCell, refsOf, putBack, size2, asgD, wipeE, inD, isOne_ch, sg_eq]
    by_cases h1 : 12 < r.length + 1
    · have h2 : ¬ r.length < 12 := by omega
      have h5 : (12 : Int) < (r.length : Int) + 1 := by omega
      rw [callD_at hw]; simp [h5, d__law_wordy, b__law_wordy, wlL, runBody, execSs, execS, evalE, evalT, evalEs, evalRs, evalAs, evalI, evalO, evalC, bind_ok, bind_ex, bind_no, settle, rd, Cell.rd, bltD, lenD, ofO, tk, asgC, two, rdTo, cmpD, ordD, binD, truthD, esc, retV, outsOf, setC, hasV, setD, Cell.isOwn, backTo1, idxD, callA, arCells, arCell, refsOf, putBack, size2, Str.length, hz, h1, h2, eqD, eqOk_str, eqv_str, eqE]
    · have h2 : r.length < 12 := by omega
      have h5 : ¬ (12 : Int) < (r.length : Int) + 1 := by omega
      rw [callD_at hw]; cases h4 : hasCh c first <;> simp [h5, d__law_wordy, b__law_wordy, wlL, runBody, execSs, execS, evalE, evalT, evalEs, evalRs, evalAs, evalI, evalO, evalC, bind_ok, bind_ex, bind_no, settle, rd, Cell.rd, bltD, lenD, ofO, tk, asgC, two, rdTo, cmpD, ordD, binD, truthD, esc, retV, outsOf, setC, hasV, setD, Cell.isOwn, backTo1, idxD, callA, arCells, arCell, refsOf, putBack, size2, Str.length, hz, h1, h2, h4, ats, inD, isOne_ch, hcomp, boolsOf_map, all_map, eqD, eqOk_str, eqv_str, eqE]
abbrev kept : List D := [.str "not", .str "count", .str "sum", .str "least", .str "most"]
theorem keptOk : eqOk (.tuple kept) = true ∧ eqOk (.list kept) = true := by decide +kernel
def nameB (l : List Nat) : Bool := if inL (.str ⟨l.toArray⟩) kept then false else wlL sSM l
theorem is_name_str (H : WlH tab gl) (hn : tab "is_name" = some d_is_name) (hk : gl "KEPT" = some (.tuple kept)) (k : Nat) (l : List Nat) (hl : l.length ≤ 1000) : callD tab gl m (k + 2) "is_name" [.pure (.str ⟨l.toArray⟩)] = .ret (.pure (.bool (nameB l))) [.pure (.str ⟨l.toArray⟩)] := by
  have h := wordlike_str (m := m) H k l sSM hl
  rw [callD_at hn]
  cases h1 : wlL sSM l <;> cases h2 : inL (.str ⟨l.toArray⟩) kept <;> simp [d_is_name, b_is_name, runBody, execSs, execS, evalE, evalT, evalEs, evalRs, evalAs, evalI, evalO, evalC, bind_ok, bind_ex, bind_no, settle, rd, Cell.rd, bltD, lenD, ofO, tk, asgC, two, rdTo, cmpD, ordD, binD, truthD, esc, retV, outsOf, setC, hasV, setD, Cell.isOwn, backTo1, idxD, callA, arCells, arCell, refsOf, putBack, size2, H.sm, hk, h, h1, h2, inD, eqOk_str, keptOk, nameB]
theorem is_variable_str (H : WlH tab gl) (hv : tab "is_variable" = some d_is_variable) (hg : gl "GREAT" = some (.str sGR)) (k : Nat) (l : List Nat) (hl : l.length ≤ 1000) : callD tab gl m (k + 2) "is_variable" [.pure (.str ⟨l.toArray⟩)] = .ret (.pure (.bool (wlL sGR l))) [.pure (.str ⟨l.toArray⟩)] := by
  have h := wordlike_str (m := m) H k l sGR hl
  rw [callD_at hv]
  simp [d_is_variable, b_is_variable, runBody, execSs, execS, evalE, evalT, evalEs, evalRs, evalAs, evalI, evalO, evalC, bind_ok, bind_ex, bind_no, settle, rd, Cell.rd, bltD, lenD, ofO, tk, asgC, two, rdTo, cmpD, ordD, binD, truthD, esc, retV, outsOf, setC, hasV, setD, Cell.isOwn, backTo1, idxD, callA, arCells, arCell, refsOf, putBack, size2, hg, h]
theorem is_value_str (H : WlH tab gl) (hn : tab "is_name" = some d_is_name) (hk : gl "KEPT" = some (.tuple kept)) (hu : tab "is_value" = some d_is_value) (k : Nat) (l : List Nat) (hl : l.length ≤ 1000) : callD tab gl m (k + 3) "is_value" [.pure (.str ⟨l.toArray⟩)] = .ret (.pure (.bool (nameB l))) [.pure (.str ⟨l.toArray⟩)] := by
  have h := is_name_str (m := m) H hn hk k l hl
  rw [callD_at hu]
  simp [d_is_value, b_is_value, runBody, execSs, execS, evalE, evalT, evalEs, evalRs, evalAs, evalI, evalO, evalC, bind_ok, bind_ex, bind_no, settle, rd, Cell.rd, bltD, lenD, ofO, tk, asgC, two, rdTo, cmpD, ordD, binD, truthD, esc, retV, outsOf, setC, hasV, setD, Cell.isOwn, backTo1, idxD, callA, arCells, arCell, refsOf, putBack, size2, isiD, h]
theorem named_str (hw : tab "_law_wordy" = some d__law_wordy) (hd : tab "_law_named" = some d__law_named) (k : Nat) (l : List Nat) (hl : l.length ≤ 1000) : callD tab gl m (k + 2) "_law_named" [.pure (.str ⟨l.toArray⟩)] = .ret (.pure (.bool (nameB l))) [.pure (.str ⟨l.toArray⟩)] := by
  have h := wordy_str (m := m) (gl := gl) hw k l sSM hl
  have z5 : 5 ≤ sizeLine := by decide
  rw [callD_at hd]
  cases h2 : inL (.str ⟨l.toArray⟩) kept <;> simp [d__law_named, b__law_named, runBody, execSs, execS, evalE, evalT, evalEs, evalRs, evalAs, evalI, evalO, evalC, bind_ok, bind_ex, bind_no, settle, rd, Cell.rd, bltD, lenD, ofO, tk, asgC, two, rdTo, cmpD, ordD, binD, truthD, esc, retV, outsOf, setC, hasV, setD, Cell.isOwn, backTo1, idxD, callA, arCells, arCell, refsOf, putBack, size2, h, h2, inD, eqOk_str, keptOk, nameB, z5]
theorem truth_ok (ht : tab "_law_truth" = some d__law_truth) (k : Nat) (b : Bool) : callD tab gl m (k + 1) "_law_truth" [.pure (.bool b), .pure (.bool b)] = .ret (.pure (.bool true)) [.pure (.bool b), .pure (.bool b)] := by
  rw [callD_at ht]
  cases b <;> simp [d__law_truth, b__law_truth, runBody, execSs, execS, evalE, evalT, evalEs, evalRs, evalAs, evalI, evalO, evalC, bind_ok, bind_ex, bind_no, settle, rd, Cell.rd, bltD, lenD, ofO, tk, asgC, two, rdTo, cmpD, ordD, binD, truthD, esc, retV, outsOf, setC, hasV, setD, Cell.isOwn, backTo1, idxD, callA, arCells, arCell, refsOf, putBack, size2, isiD, eqD, eqOk, PyData.plain, PyData.depth, PyData.eqv]
theorem whileN_ind {test : DEnv -> Out Bool} {body : DEnv -> Out Fl} (I : Nat -> DEnv -> Prop) (Rf : Out Fl -> Prop)
    (step : ∀ n δ, I n δ -> (∃ δ', test δ = .ok false δ' ∧ Rf (.ok .nx δ')) ∨ (∃ δ1, test δ = .ok true δ1 ∧ ((∃ δ2 n', (body δ1 = .ok .nx δ2 ∨ body δ1 = .ok .ct δ2) ∧ n' < n ∧ I n' δ2) ∨ (∃ δ2, body δ1 = .ok .bk δ2 ∧ Rf (.ok .nx δ2)) ∨ ∃ c δ2, body δ1 = .ok (.rt c) δ2 ∧ Rf (.ok (.rt c) δ2)))) :
    ∀ (n m : Nat) (δ : DEnv), n < m -> I n δ -> Rf (whileN test body m δ)
  | n, 0, δ, h, _ => absurd h (by omega)
  | n, m + 1, δ, h, hi => by
    unfold whileN
    rcases step n δ hi with ⟨δ', e, r⟩ | ⟨δ1, e, ⟨δ2, n', e2, hn, hi2⟩ | ⟨δ2, e2, r⟩ | ⟨c, δ2, e2, r⟩⟩
    · rw [e]; exact r
    · rw [e]
      have z := whileN_ind I Rf step n' m δ2 (by omega) hi2
      rcases e2 with e2 | e2 <;> (simp only [e2]; exact z)
    · rw [e]; simp only [e2]; exact r
    · rw [e]; simp only [e2]; exact r
def Sh (n : Nat) (d : D) : Prop := ∃ z : Str, d = .str z ∧ z.cps.size ≤ n
theorem app_size (x y : Str) : (x ++ y).cps.size = x.cps.size + y.cps.size := by
  show (x.cps ++ y.cps).size = _
  simp
theorem rep_size (x : Str) (n : Int) : (repS x n).cps.size = n.toNat * x.cps.size := by
  unfold repS
  simp
end
end DE.Lib

/-! DE23: values in order. -/
namespace DE.Lib
open PySem PySem.Spec PyProof.Rows L2
def b_order_of : CSs := (.cons (.ifs (.isi (.slot 0) .str) (.cons (.ret (.tup (.cons (.con (.int 1)) (.cons (.con (.int 0)) (.cons (.slot 0) .nil))))) .nil) .nil) (.cons (.ret (.tup (.cons (.con (.int 0)) (.cons (.slot 0) (.cons (.con (.str "")) .nil))))) .nil))
def d_order_of : CDef := ⟨["value"], ["value"], b_order_of⟩
def b_sorted_values : CSs := (.cons (.ret (.srt (.slot 0) "order_of")) .nil)
def d_sorted_values : CDef := ⟨["values"], ["values"], b_sorted_values⟩
def b__law_key : CSs := (.cons (.ifs (.isi (.slot 0) .str) (.cons (.ret (.tup (.cons (.con (.int 1)) (.cons (.con (.int 0)) (.cons (.slot 0) .nil))))) .nil) .nil) (.cons (.ret (.tup (.cons (.con (.int 0)) (.cons (.slot 0) (.cons (.con (.str "")) .nil))))) .nil))
def d__law_key : CDef := ⟨["value"], ["value"], b__law_key⟩
section
variable {m : Nat} {tab : Str -> Option CDef} {gl : Str -> Option D}
theorem sl : sizeLine = 16777216 := by decide
/-- numbers and texts -/
inductive Vv : D -> Prop
  | int (n : Int) : Vv (.int n)
  | str (z : Str) : z.cps.size ≤ 10 -> Vv (.str z)
abbrev e0 : Str := ""
def keyV : D -> D
  | .str z => .tuple [.int 1, .int 0, .str z]
  | d => .tuple [.int 0, d, .str e0]
theorem order_ok (ht : tab "order_of" = some d_order_of) (k : Nat) (d : D) (h : Vv d) : callD tab gl m (k + 1) "order_of" [.pure d] = .ret (.pure (keyV d)) [.pure d] := by
  rw [callD_at ht]
  cases h with
  | int n => simp [d_order_of, b_order_of, runBody, execSs, execS, evalE, evalT, evalEs, evalRs, evalAs, evalI, evalO, evalC, bind_ok, bind_ex, bind_no, settle, rd, Cell.rd, bltD, lenD, ofO, tk, asgC, two, rdTo, cmpD, ordD, binD, truthD, esc, retV, outsOf, setC, hasV, setD, Cell.isOwn, backTo1, idxD, callA, arCells, arCell, refsOf, putBack, size2, isiD, keyV, sl]
  | str z hz => simp [d_order_of, b_order_of, runBody, execSs, execS, evalE, evalT, evalEs, evalRs, evalAs, evalI, evalO, evalC, bind_ok, bind_ex, bind_no, settle, rd, Cell.rd, bltD, lenD, ofO, tk, asgC, two, rdTo, cmpD, ordD, binD, truthD, esc, retV, outsOf, setC, hasV, setD, Cell.isOwn, backTo1, idxD, callA, arCells, arCell, refsOf, putBack, size2, isiD, keyV, sl]
theorem key_ok (ht : tab "_law_key" = some d__law_key) (k : Nat) (d : D) (h : Vv d) : callD tab gl m (k + 1) "_law_key" [.pure d] = .ret (.pure (keyV d)) [.pure d] := by
  rw [callD_at ht]
  cases h with
  | int n => simp [d__law_key, b__law_key, runBody, execSs, execS, evalE, evalT, evalEs, evalRs, evalAs, evalI, evalO, evalC, bind_ok, bind_ex, bind_no, settle, rd, Cell.rd, bltD, lenD, ofO, tk, asgC, two, rdTo, cmpD, ordD, binD, truthD, esc, retV, outsOf, setC, hasV, setD, Cell.isOwn, backTo1, idxD, callA, arCells, arCell, refsOf, putBack, size2, isiD, keyV, sl]
  | str z hz => simp [d__law_key, b__law_key, runBody, execSs, execS, evalE, evalT, evalEs, evalRs, evalAs, evalI, evalO, evalC, bind_ok, bind_ex, bind_no, settle, rd, Cell.rd, bltD, lenD, ofO, tk, asgC, two, rdTo, cmpD, ordD, binD, truthD, esc, retV, outsOf, setC, hasV, setD, Cell.isOwn, backTo1, idxD, callA, arCells, arCell, refsOf, putBack, size2, isiD, keyV, sl]
theorem keyV_cases (d : D) (h : Vv d) : ∃ a b z, keyV d = .tuple [.int a, .int b, .str z] := by
  cases h with
  | int n => exact ⟨_, _, _, rfl⟩
  | str z _ => exact ⟨_, _, _, rfl⟩
theorem ordOk_key (d e : D) (hd : Vv d) (he : Vv e) : ordOk (keyV d) (keyV e) = true := by
  obtain ⟨a, b, z, h1⟩ := keyV_cases d hd
  obtain ⟨a', b', z', h2⟩ := keyV_cases e he
  rw [h1, h2]
  simp [ordOk, PyData.plain, PyData.plainAll, PySem.W.alike, PySem.W.alikeAll, PyData.depth, PyData.depthAll]
theorem eqOk_key (d : D) (hd : Vv d) : eqOk (keyV d) = true := by
  obtain ⟨a, b, z, h1⟩ := keyV_cases d hd
  rw [h1]
  simp [eqOk, PyData.plain, PyData.plainAll, PyData.depth, PyData.depthAll]
theorem okKeys_map (ds : List D) (h : ∀ d ∈ ds, Vv d) : okKeys (ds.map keyV) = true := by
  have pl : PyData.plainAll (ds.map keyV) = true := by
    induction ds with
    | nil => rfl
    | cons d r ih =>
      have h1 := eqOk_of (eqOk_key d (h d (List.mem_cons_self ..)))
      rw [List.map_cons]
      simp only [PyData.plainAll, h1.1, ih fun e he => h e (List.mem_cons_of_mem _ he), Bool.and_self]
  unfold okKeys
  rw [pl]
  simp only [Bool.true_and, Bool.and_eq_true, Bool.or_eq_true, List.all_eq_true, decide_eq_true_eq]
  refine ⟨⟨fun a ha b hb => ?_, .inl fun a ha => ?_⟩, fun a ha => ?_⟩
  · obtain ⟨d, hd, rfl⟩ := List.mem_map.mp ha
    obtain ⟨e, he, rfl⟩ := List.mem_map.mp hb
    exact (ordOk_of (ordOk_key d e (h d hd) (h e he))).2.2.1
  · obtain ⟨d, hd, rfl⟩ := List.mem_map.mp ha
    obtain ⟨x, y, z, e⟩ := keyV_cases d (h d hd)
    rw [e]
  · obtain ⟨d, hd, rfl⟩ := List.mem_map.mp ha
    exact (eqOk_of (eqOk_key d (h d hd))).2
theorem keysD_map {Γ : Calls} {f : Str} : ∀ (ds : List D), (∀ d ∈ ds, ∃ o, Γ f [.pure d] = .ret (.pure (keyV d)) o) -> keysD Γ f ds = some (ds.map keyV)
  | [], _ => rfl
  | d :: r, h => by
    obtain ⟨o, e⟩ := h d (List.mem_cons_self ..)
    simp only [keysD, e, keysD_map r fun x hx => h x (List.mem_cons_of_mem _ hx)]
    rfl
/-- the list in order -/
def srt (ds : List D) : List D := srtK ds (ds.map keyV)
theorem srt_perm (ds : List D) : (srt ds).Perm ds := by
  unfold srt srtK
  have h1 : (((ds.zip (ds.map keyV)).mergeSort (PySem.W.dataLe false (·.2))).map (·.1)).Perm ((ds.zip (ds.map keyV)).map (·.1)) := (List.mergeSort_perm _ _).map _
  have h2 : (ds.zip (ds.map keyV)).map (·.1) = ds := by
    rw [List.map_fst_zip]; rw [List.length_map]; exact Nat.le_refl _
  rw [h2] at h1
  exact h1
theorem srt_mem (ds : List D) (h : ∀ d ∈ ds, Vv d) : ∀ d ∈ srt ds, Vv d := fun d hd => h d ((srt_perm ds).mem_iff.mp hd)
theorem sorted_ok (ht : tab "sorted_values" = some d_sorted_values) (ho : tab "order_of" = some d_order_of) (k : Nat) (ds : List D) (h : ∀ d ∈ ds, Vv d) : callD tab gl m (k + 2) "sorted_values" [.pure (.list ds)] = .ret (.own (.list (srt ds))) [.pure (.list ds)] := by
  have h1 : keysD (callD tab gl m (k + 1)) "order_of" ds = some (ds.map keyV) := keysD_map ds fun d hd => ⟨_, order_ok ho k d (h d hd)⟩
  have h2 := okKeys_map ds h
  rw [callD_at ht]
  simp [d_sorted_values, b_sorted_values, runBody, execSs, execS, evalE, evalT, evalEs, evalRs, evalAs, evalI, evalO, evalC, bind_ok, bind_ex, bind_no, settle, rd, Cell.rd, bltD, lenD, ofO, tk, asgC, two, rdTo, cmpD, ordD, binD, truthD, esc, retV, outsOf, setC, hasV, setD, Cell.isOwn, backTo1, idxD, callA, arCells, arCell, refsOf, putBack, size2, srtD, h1, h2, srt]
/-! ### the same -/
theorem vv_bool (d : D) (h : Vv d) : isiD .bool d = false := by cases h <;> rfl
theorem vv_eqOk (d : D) (h : Vv d) : eqOk d = true := by cases h <;> rfl
theorem vv_eqv (d : D) (h : Vv d) : PyData.eqv d d = true := by
  cases h with
  | int n => simp [PyData.eqv]
  | str z _ => simp [PyData.eqv]
end
end DE.Lib

namespace DE
open PySem PySem.Spec PyProof.Rows L2
namespace K05
def top (i : Nat) : Stmt := PySem.Challenge.pw_stayledger_k05_whole_matching.main.body.getD i (.Pass ⟨0, 0, 0, 0⟩)
def c1_is_wordlike : CE := (.lc (.orr (.cmp .In (.slot 2) (.glb "SMALL")) (.cmp .In (.slot 2) (.glb "FIGURES"))) (.nm 2) (.val (.slc (.slot 0) (.som (.con (.int 1))) .non)) .non [2])
def b_is_wordlike : CSs := (.cons (.ifs (.orr (.nt (.isi (.slot 0) .str)) (.orr (.cmp .Lt (.blt .len (.cons (.slot 0) .nil)) (.con (.int 1))) (.orr (.cmp .Gt (.blt .len (.cons (.slot 0) .nil)) (.glb "MOST_SIGNS")) (.cmp .NotIn (.idx (.slot 0) (.con (.int 0))) (.slot 1))))) (.cons (.ret (.con (.bool false))) .nil) .nil) (.cons (.ret (.blt .all (.cons c1_is_wordlike .nil))) .nil))
def d_is_wordlike : CDef := ⟨["thing", "first"], ["thing", "first", "sign"], b_is_wordlike⟩
def e_is_wordlike : Ent := ⟨"is_wordlike", top 5, [], d_is_wordlike⟩
def b_is_variable : CSs := (.cons (.ret (.call "is_wordlike" (.val (.slot 0) (.val (.glb "GREAT") .nil)))) .nil)
def d_is_variable : CDef := ⟨["thing"], ["thing"], b_is_variable⟩
def e_is_variable : Ent := ⟨"is_variable", top 6, [], d_is_variable⟩
def w1_matched : CSs := (.cons (.ifs (.call "is_variable" (.val (.slot 4) .nil)) (.cons (.ifs (.cmp .NotIn (.slot 4) (.slot 3)) (.cons (.seti 3 (.slot 4) (.slot 5)) .nil) (.cons (.ifs (.cmp .NotEq (.idx (.slot 3) (.slot 4)) (.slot 5)) (.cons (.ret (.con .none)) .nil) .nil) .nil)) .nil) (.cons (.ifs (.cmp .NotEq (.slot 4) (.slot 5)) (.cons (.ret (.con .none)) .nil) .nil) .nil)) .nil)
def l2_matched : CS := (.fr (.tp [(.nm 4), (.nm 5)]) (.zp (.slot 0) (.slot 1)) w1_matched)
def b_matched : CSs := (.cons (.ifs (.cmp .NotEq (.blt .len (.cons (.slot 0) .nil)) (.blt .len (.cons (.slot 1) .nil))) (.cons (.ret (.con .none)) .nil) .nil) (.cons (.asg 3 (.blt .dict (.cons (.slot 2) .nil))) (.cons l2_matched (.cons (.ret (.blt .tuple (.cons (.sit (.slot 3)) .nil))) .nil))))
def d_matched : CDef := ⟨["terms", "values", "binding"], ["terms", "values", "binding", "found", "term", "value"], b_matched⟩
def e_matched : Ent := ⟨"matched", top 8, [], d_matched⟩
def c1_put_in : CE := (.lc (.mth .get (.slot 2) (.cons (.slot 3) (.cons (.slot 3) .nil))) (.nm 3) (.val (.slot 0)) .non [3])
def b_put_in : CSs := (.cons (.asg 2 (.blt .dict (.cons (.slot 1) .nil))) (.cons (.ret (.blt .tuple (.cons c1_put_in .nil))) .nil))
def d_put_in : CDef := ⟨["terms", "binding"], ["terms", "binding", "found", "term"], b_put_in⟩
def e_put_in : Ent := ⟨"put_in", top 9, [], d_put_in⟩
def w1_joined : CSs := (.cons (.ifs (.an (.cmp .In (.slot 3) (.slot 2)) (.cmp .NotEq (.idx (.slot 2) (.slot 3)) (.slot 4))) (.cons (.ret (.con .none)) .nil) .nil) (.cons (.seti 2 (.slot 3) (.slot 4)) .nil))
def l2_joined : CS := (.fr (.tp [(.nm 3), (.nm 4)]) (.val (.slot 1)) w1_joined)
def b_joined : CSs := (.cons (.asg 2 (.blt .dict (.cons (.slot 0) .nil))) (.cons l2_joined (.cons (.ret (.blt .tuple (.cons (.sit (.slot 2)) .nil))) .nil)))
def d_joined : CDef := ⟨["one", "other"], ["one", "other", "found", "variable", "value"], b_joined⟩
def e_joined : Ent := ⟨"joined", top 10, [], d_joined⟩
def b__law_cell : CSs := (.cons (.ifs (.cmp .Lt (.slot 1) (.blt .len (.cons (.slot 0) .nil))) (.cons (.ret (.idx (.slot 0) (.slot 1))) .nil) .nil) (.cons (.ret (.con (.int 0))) .nil))
def d__law_cell : CDef := ⟨["script", "k"], ["script", "k"], b__law_cell⟩
def e__law_cell : Ent := ⟨"_law_cell", top 12, [], d__law_cell⟩
def b__law_state : CSs := (.cons (.asg 1 (.blt .abs (.cons (.slot 0) .nil))) (.cons (.ifs (.cmp .GtE (.slot 1) (.bin .Pow (.con (.int 10)) (.con (.int 18)))) (.cons (.ret (.lst (.cons (.slot 1) (.cons (.bin .Add (.bin .Mod (.slot 1) (.con (.int 1000000007))) (.con (.int 1))) .nil)))) .nil) .nil) (.cons (.ret (.lst (.cons (.con (.int 0)) (.cons (.bin .Add (.bin .Mod (.bin .Add (.bin .Mult (.bin .Mod (.slot 1) (.con (.int 1000000007))) (.con (.int 48271))) (.con (.int 977))) (.con (.int 2147483647))) (.con (.int 1))) .nil)))) .nil)))
def d__law_state : CDef := ⟨["cell"], ["cell", "size"], b__law_state⟩
def e__law_state : Ent := ⟨"_law_state", top 13, [], d__law_state⟩
def b__law_pick : CSs := (.cons (.ifs (.cmp .Gt (.idx (.slot 0) (.con (.int 0))) (.con (.int 0))) (.cons (.asg 2 (.bin .Mod (.idx (.slot 0) (.con (.int 0))) (.slot 1))) (.cons (.seti 0 (.con (.int 0)) (.bin .FloorDiv (.idx (.slot 0) (.con (.int 0))) (.slot 1))) (.cons (.ret (.slot 2)) .nil))) .nil) (.cons (.seti 0 (.con (.int 1)) (.bin .Add (.bin .Mod (.bin .Mult (.idx (.slot 0) (.con (.int 1))) (.con (.int 48271))) (.con (.int 2147483647))) (.con (.int 1)))) (.cons (.asg 3 (.bin .Mod (.bin .Mult (.bin .Mod (.bin .Mult (.idx (.slot 0) (.con (.int 1))) (.idx (.slot 0) (.con (.int 1)))) (.con (.int 2147483629))) (.con (.int 69621))) (.con (.int 2147483587)))) (.cons (.ret (.bin .Mod (.bin .FloorDiv (.slot 3) (.con (.int 8))) (.slot 1))) .nil))))
def d__law_pick : CDef := ⟨["state", "many"], ["state", "many", "found", "mixed"], b__law_pick⟩
def e__law_pick : Ent := ⟨"_law_pick", top 14, [0], d__law_pick⟩
def b__law_value : CSs := (.cons (.ret (.idx (.lst (.cons (.con (.int 0)) (.cons (.con (.int 1)) (.cons (.neg (.con (.int 1))) (.cons (.con (.str "a")) (.cons (.con (.str "b")) (.cons (.bin .Pow (.con (.int 10)) (.con (.int 39))) .nil))))))) (.call "_law_pick" (.ref 0 (.val (.con (.int 6)) .nil))))) .nil)
def d__law_value : CDef := ⟨["state"], ["state"], b__law_value⟩
def e__law_value : Ent := ⟨"_law_value", top 15, [0], d__law_value⟩
def w1__law_binding : CSs := (.cons (.ifs (.cmp .Gt (.call "_law_pick" (.ref 0 (.val (.con (.int 3)) .nil))) (.con (.int 0))) (.cons (.expr (.mth .append (.slot 1) (.cons (.tup (.cons (.slot 2) (.cons (.call "_law_value" (.ref 0 .nil)) .nil))) .nil))) .nil) .nil) .nil)
def l2__law_binding : CS := (.fr (.nm 2) (.val (.lst (.cons (.con (.str "X")) (.cons (.con (.str "Y")) (.cons (.con (.str "Y0")) (.cons (.con (.str "Zab")) .nil)))))) w1__law_binding)
def b__law_binding : CSs := (.cons (.asg 1 (.lst .nil)) (.cons l2__law_binding (.cons (.ret (.blt .tuple (.cons (.slot 1) .nil))) .nil)))
def d__law_binding : CDef := ⟨["state"], ["state", "found", "name"], b__law_binding⟩
def e__law_binding : Ent := ⟨"_law_binding", top 16, [0], d__law_binding⟩
def w1__law_terms : CSs := (.cons (.ifs (.cmp .Eq (.call "_law_pick" (.ref 0 (.val (.con (.int 2)) .nil))) (.con (.int 0))) (.cons (.expr (.mth .append (.slot 1) (.cons (.call "_law_value" (.ref 0 .nil)) .nil))) .nil) (.cons (.expr (.mth .append (.slot 1) (.cons (.idx (.lst (.cons (.con (.str "X")) (.cons (.con (.str "Y")) (.cons (.con (.str "Y0")) (.cons (.con (.str "Zab")) .nil))))) (.call "_law_pick" (.ref 0 (.val (.con (.int 4)) .nil)))) .nil))) .nil)) .nil)
def l2__law_terms : CS := (.fr (.nm 2) (.rng1 (.call "_law_pick" (.ref 0 (.val (.con (.int 7)) .nil)))) w1__law_terms)
def b__law_terms : CSs := (.cons (.asg 1 (.lst .nil)) (.cons l2__law_terms (.cons (.ret (.blt .tuple (.cons (.slot 1) .nil))) .nil)))
def d__law_terms : CDef := ⟨["state"], ["state", "found", "k"], b__law_terms⟩
def e__law_terms : Ent := ⟨"_law_terms", top 17, [0], d__law_terms⟩
def c1__law_put : CE := (.lc (.mth .get (.slot 2) (.cons (.slot 3) (.cons (.slot 3) .nil))) (.nm 3) (.val (.slot 0)) .non [3])
def b__law_put : CSs := (.cons (.asg 2 (.blt .dict (.cons (.slot 1) .nil))) (.cons (.ret (.blt .tuple (.cons c1__law_put .nil))) .nil))
def d__law_put : CDef := ⟨["terms", "binding"], ["terms", "binding", "told", "term"], b__law_put⟩
def e__law_put : Ent := ⟨"_law_put", top 18, [], d__law_put⟩
def w1__law_due : CSs := (.cons (.ifs (.an (.isi (.idx (.slot 0) (.slot 4)) .str) (.mth .isupper (.slc (.idx (.slot 0) (.slot 4)) .non (.som (.con (.int 1)))) .nil)) (.cons (.ifs (.an (.cmp .In (.idx (.slot 0) (.slot 4)) (.slot 3)) (.cmp .NotEq (.idx (.slot 3) (.idx (.slot 0) (.slot 4))) (.idx (.slot 1) (.slot 4)))) (.cons (.ret (.con .none)) .nil) .nil) (.cons (.seti 3 (.idx (.slot 0) (.slot 4)) (.idx (.slot 1) (.slot 4))) .nil)) (.cons (.ifs (.cmp .NotEq (.idx (.slot 0) (.slot 4)) (.idx (.slot 1) (.slot 4))) (.cons (.ret (.con .none)) .nil) .nil) .nil)) .nil)
def l2__law_due : CS := (.fr (.nm 4) (.rng1 (.blt .len (.cons (.slot 0) .nil))) w1__law_due)
def c3__law_due : CE := (.lc (.tup (.cons (.slot 5) (.cons (.idx (.slot 3) (.slot 5)) .nil))) (.nm 5) (.val (.sky (.slot 3))) .non [5])
def b__law_due : CSs := (.cons (.ifs (.cmp .NotEq (.blt .len (.cons (.slot 0) .nil)) (.blt .len (.cons (.slot 1) .nil))) (.cons (.ret (.con .none)) .nil) .nil) (.cons (.asg 3 (.blt .dict (.cons (.slot 2) .nil))) (.cons l2__law_due (.cons (.ret (.blt .tuple (.cons c3__law_due .nil))) .nil))))
def d__law_due : CDef := ⟨["terms", "values", "binding"], ["terms", "values", "binding", "told", "k", "name"], b__law_due⟩
def e__law_due : Ent := ⟨"_law_due", top 19, [], d__law_due⟩
def w1__law_both : CSs := (.cons (.ifs (.an (.cmp .In (.slot 3) (.slot 2)) (.cmp .NotEq (.idx (.slot 2) (.slot 3)) (.slot 4))) (.cons (.ret (.con .none)) .nil) .nil) (.cons (.seti 2 (.slot 3) (.slot 4)) .nil))
def l2__law_both : CS := (.fr (.tp [(.nm 3), (.nm 4)]) (.val (.slot 1)) w1__law_both)
def c3__law_both : CE := (.lc (.tup (.cons (.slot 3) (.cons (.idx (.slot 2) (.slot 3)) .nil))) (.nm 3) (.val (.sky (.slot 2))) .non [3])
def b__law_both : CSs := (.cons (.asg 2 (.blt .dict (.cons (.slot 0) .nil))) (.cons l2__law_both (.cons (.ret (.blt .tuple (.cons c3__law_both .nil))) .nil)))
def d__law_both : CDef := ⟨["one", "other"], ["one", "other", "told", "name", "value"], b__law_both⟩
def e__law_both : Ent := ⟨"_law_both", top 20, [], d__law_both⟩
def b__law_like : CSs := (.cons (.ifs (.orr (.cmp .Is (.slot 1) (.con .none)) (.cmp .Is (.slot 0) (.con .none))) (.cons (.ret (.an (.cmp .Is (.slot 0) (.con .none)) (.cmp .Is (.slot 1) (.con .none)))) .nil) .nil) (.cons (.ret (.an (.isi (.slot 0) .tuple) (.cmp .Eq (.slot 0) (.slot 1)))) .nil))
def d__law_like : CDef := ⟨["found", "due"], ["found", "due"], b__law_like⟩
def e__law_like : Ent := ⟨"_law_like", top 21, [], d__law_like⟩
def c1__law_right : CE := (.lc (.mth .get (.slot 3) (.cons (.slot 12) (.cons (.slot 12) .nil))) (.nm 12) (.val (.slot 2)) .non [12])
def c2__law_right : CE := (.lc (.call "_law_value" (.ref 1 .nil)) (.nm 12) (.val (.slot 2)) .non [12])
def c3__law_right : CE := (.lc (.tup (.cons (.slot 13) (.cons (.idx (.slot 3) (.slot 13)) .nil))) (.tp [(.nm 13), (.nm 14)]) (.val (.slot 7)) .non [13, 14])
def c4__law_right : CE := (.lc (.cmp .NotIn (.slot 15) (.slot 9)) (.nm 15) (.val (.slot 7)) .non [15])
def b__law_right : CSs := (.cons (.asg 1 (.call "_law_state" (.val (.slot 0) .nil))) (.cons (.asg 2 (.call "_law_terms" (.ref 1 .nil))) (.cons (.asg 3 (.dsp (.cons (.con (.str "X")) (.cons (.call "_law_value" (.ref 1 .nil)) (.cons (.con (.str "Y")) (.cons (.call "_law_value" (.ref 1 .nil)) (.cons (.con (.str "Y0")) (.cons (.call "_law_value" (.ref 1 .nil)) (.cons (.con (.str "Zab")) (.cons (.call "_law_value" (.ref 1 .nil)) .nil)))))))))) (.cons (.asg 4 (.blt .tuple (.cons c1__law_right .nil))) (.cons (.asg 5 (.call "_law_pick" (.ref 1 (.val (.con (.int 4)) .nil)))) (.cons (.ifs (.cmp .Eq (.slot 5) (.con (.int 1))) (.cons (.asg 4 (.blt .tuple (.cons c2__law_right .nil))) .nil) .nil) (.cons (.ifs (.cmp .Eq (.slot 5) (.con (.int 2))) (.cons (.asg 6 (.bin .Add (.slot 4) (.bin .Mult (.tup (.cons (.con (.int 0)) .nil)) (.blt .int (.cons (.cmp .Lt (.blt .len (.cons (.slot 2) .nil)) (.con (.int 6))) .nil))))) (.cons (.asg 4 (.idx (.lst (.cons (.slot 6) (.cons (.slc (.bin .Add (.slot 4) (.tup (.cons (.con (.int 0)) .nil))) (.som (.con (.int 1))) .non) (.cons (.slc (.slot 4) .non (.som (.neg (.con (.int 1))))) .nil)))) (.call "_law_pick" (.ref 1 (.val (.con (.int 3)) .nil))))) .nil)) .nil) (.cons (.asg 7 (.call "_law_binding" (.ref 1 .nil))) (.cons (.ifs (.cmp .Eq (.call "_law_pick" (.ref 1 (.val (.con (.int 2)) .nil))) (.con (.int 0))) (.cons (.asg 7 (.blt .tuple (.cons c3__law_right .nil))) .nil) .nil) (.cons (.asg 8 (.call "_law_binding" (.ref 1 .nil))) (.cons (.asg 9 (.call "matched" (.val (.slot 2) (.val (.slot 4) (.val (.slot 7) .nil))))) (.cons (.ifs (.nt (.call "_law_like" (.val (.slot 9) (.val (.call "_law_due" (.val (.slot 2) (.val (.slot 4) (.val (.slot 7) .nil)))) .nil)))) (.cons (.ret (.con (.bool false))) .nil) .nil) (.cons (.ifs (.an (.cmp .IsNot (.slot 9) (.con .none)) (.cmp .NotEq (.call "put_in" (.val (.slot 2) (.val (.slot 9) .nil))) (.slot 4))) (.cons (.ret (.con (.bool false))) .nil) .nil) (.cons (.ifs (.an (.cmp .IsNot (.slot 9) (.con .none)) (.blt .any (.cons c4__law_right .nil))) (.cons (.ret (.con (.bool false))) .nil) .nil) (.cons (.asg 10 (.call "put_in" (.val (.slot 2) (.val (.slot 7) .nil)))) (.cons (.ifs (.orr (.nt (.isi (.slot 10) .tuple)) (.cmp .NotEq (.slot 10) (.call "_law_put" (.val (.slot 2) (.val (.slot 7) .nil))))) (.cons (.ret (.con (.bool false))) .nil) .nil) (.cons (.asg 11 (.call "_law_both" (.val (.slot 7) (.val (.slot 8) .nil)))) (.cons (.ret (.an (.call "_law_like" (.val (.call "joined" (.val (.slot 7) (.val (.slot 8) .nil))) (.val (.slot 11) .nil))) (.call "_law_like" (.val (.call "joined" (.val (.slot 8) (.val (.slot 7) .nil))) (.val (.slot 11) .nil))))) .nil))))))))))))))))))
def d__law_right : CDef := ⟨["cell"], ["cell", "state", "terms", "full", "values", "way", "longer", "binding", "other", "found", "told", "due", "term", "name", "value", "pair"], b__law_right⟩
def e__law_right : Ent := ⟨"_law_right", top 22, [], d__law_right⟩
def c1_law : CE := (.lc (.call "_law_right" (.val (.slot 1) .nil)) (.nm 1) (.val (.slot 0)) .non [1])
def b_law : CSs := (.cons (.ifs (.orr (.cmp .NotEq (.call "matched" (.val (.tup .nil) (.val (.tup .nil) (.val (.tup .nil) .nil)))) (.tup .nil)) (.orr (.cmp .NotEq (.call "joined" (.val (.tup .nil) (.val (.tup .nil) .nil))) (.tup .nil)) (.cmp .NotEq (.call "put_in" (.val (.tup .nil) (.val (.tup .nil) .nil))) (.tup .nil)))) (.cons (.ret (.con (.bool false))) .nil) .nil) (.cons (.ret (.blt .all (.cons c1_law .nil))) .nil))
def d_law : CDef := ⟨["script"], ["script", "cell"], b_law⟩
def e_law : Ent := ⟨"law", top 23, [], d_law⟩
def es : List Ent := [e_is_wordlike, e_is_variable, e_matched, e_put_in, e_joined, e__law_cell, e__law_state, e__law_pick, e__law_value, e__law_binding, e__law_terms, e__law_put, e__law_due, e__law_both, e__law_like, e__law_right, e_law]
def cs : List (Str × D) := [("SMALL", (.str "abcdefghijklmnopqrstuvwxyz")), ("GREAT", (.str "ABCDEFGHIJKLMNOPQRSTUVWXYZ")), ("FIGURES", (.str "0123456789")), ("MOST_SIGNS", (.int (12)))]
theorem ok_is_wordlike : EntOk es cs e_is_wordlike := ⟨by decide +kernel, ⟨200, by kernel_rfl⟩, fun _ _ _ _ _ _ us hl => match us, hl with | [_, _], _ => rfl⟩
theorem ok_is_variable : EntOk es cs e_is_variable := ⟨by decide +kernel, ⟨200, by kernel_rfl⟩, fun _ _ _ _ _ _ us hl => match us, hl with | [_], _ => rfl⟩
theorem ok_matched : EntOk es cs e_matched := ⟨by decide +kernel, ⟨200, by kernel_rfl⟩, fun _ _ _ _ _ _ us hl => match us, hl with | [_, _, _], _ => rfl⟩
theorem ok_put_in : EntOk es cs e_put_in := ⟨by decide +kernel, ⟨200, by kernel_rfl⟩, fun _ _ _ _ _ _ us hl => match us, hl with | [_, _], _ => rfl⟩
theorem ok_joined : EntOk es cs e_joined := ⟨by decide +kernel, ⟨200, by kernel_rfl⟩, fun _ _ _ _ _ _ us hl => match us, hl with | [_, _], _ => rfl⟩
theorem ok__law_cell : EntOk es cs e__law_cell := ⟨by decide +kernel, ⟨200, by kernel_rfl⟩, fun _ _ _ _ _ _ us hl => match us, hl with | [_, _], _ => rfl⟩
theorem ok__law_state : EntOk es cs e__law_state := ⟨by decide +kernel, ⟨200, by kernel_rfl⟩, fun _ _ _ _ _ _ us hl => match us, hl with | [_], _ => rfl⟩
theorem ok__law_pick : EntOk es cs e__law_pick := ⟨by decide +kernel, ⟨200, by kernel_rfl⟩, fun _ _ _ _ _ _ us hl => match us, hl with | [_, _], _ => rfl⟩
theorem ok__law_value : EntOk es cs e__law_value := ⟨by decide +kernel, ⟨200, by kernel_rfl⟩, fun _ _ _ _ _ _ us hl => match us, hl with | [_], _ => rfl⟩
theorem ok__law_binding : EntOk es cs e__law_binding := ⟨by decide +kernel, ⟨200, by kernel_rfl⟩, fun _ _ _ _ _ _ us hl => match us, hl with | [_], _ => rfl⟩
theorem ok__law_terms : EntOk es cs e__law_terms := ⟨by decide +kernel, ⟨200, by kernel_rfl⟩, fun _ _ _ _ _ _ us hl => match us, hl with | [_], _ => rfl⟩
theorem ok__law_put : EntOk es cs e__law_put := ⟨by decide +kernel, ⟨200, by kernel_rfl⟩, fun _ _ _ _ _ _ us hl => match us, hl with | [_, _], _ => rfl⟩
theorem ok__law_due : EntOk es cs e__law_due := ⟨by decide +kernel, ⟨200, by kernel_rfl⟩, fun _ _ _ _ _ _ us hl => match us, hl with | [_, _, _], _ => rfl⟩
theorem ok__law_both : EntOk es cs e__law_both := ⟨by decide +kernel, ⟨200, by kernel_rfl⟩, fun _ _ _ _ _ _ us hl => match us, hl with | [_, _], _ => rfl⟩
theorem ok__law_like : EntOk es cs e__law_like := ⟨by decide +kernel, ⟨200, by kernel_rfl⟩, fun _ _ _ _ _ _ us hl => match us, hl with | [_, _], _ => rfl⟩
theorem ok__law_right : EntOk es cs e__law_right := ⟨by decide +kernel, ⟨200, by kernel_rfl⟩, fun _ _ _ _ _ _ us hl => match us, hl with | [_], _ => rfl⟩
theorem ok_law : EntOk es cs e_law := ⟨by decide +kernel, ⟨200, by kernel_rfl⟩, fun _ _ _ _ _ _ us hl => match us, hl with | [_], _ => rfl⟩
theorem tb_is_wordlike : tabOf es "is_wordlike" = some d_is_wordlike := by kernel_rfl
theorem tb_is_variable : tabOf es "is_variable" = some d_is_variable := by kernel_rfl
theorem tb_matched : tabOf es "matched" = some d_matched := by kernel_rfl
theorem tb_put_in : tabOf es "put_in" = some d_put_in := by kernel_rfl
theorem tb_joined : tabOf es "joined" = some d_joined := by kernel_rfl
theorem tb__law_cell : tabOf es "_law_cell" = some d__law_cell := by kernel_rfl
theorem tb__law_state : tabOf es "_law_state" = some d__law_state := by kernel_rfl
theorem tb__law_pick : tabOf es "_law_pick" = some d__law_pick := by kernel_rfl
theorem tb__law_value : tabOf es "_law_value" = some d__law_value := by kernel_rfl
theorem tb__law_binding : tabOf es "_law_binding" = some d__law_binding := by kernel_rfl
theorem tb__law_terms : tabOf es "_law_terms" = some d__law_terms := by kernel_rfl
theorem tb__law_put : tabOf es "_law_put" = some d__law_put := by kernel_rfl
theorem tb__law_due : tabOf es "_law_due" = some d__law_due := by kernel_rfl
theorem tb__law_both : tabOf es "_law_both" = some d__law_both := by kernel_rfl
theorem tb__law_like : tabOf es "_law_like" = some d__law_like := by kernel_rfl
theorem tb__law_right : tabOf es "_law_right" = some d__law_right := by kernel_rfl
theorem tb_law : tabOf es "law" = some d_law := by kernel_rfl
theorem gl_SMALL : glOf cs "SMALL" = some (.str "abcdefghijklmnopqrstuvwxyz") := by kernel_rfl
theorem gl_GREAT : glOf cs "GREAT" = some (.str "ABCDEFGHIJKLMNOPQRSTUVWXYZ") := by kernel_rfl
theorem gl_FIGURES : glOf cs "FIGURES" = some (.str "0123456789") := by kernel_rfl
theorem gl_MOST_SIGNS : glOf cs "MOST_SIGNS" = some (.int (12)) := by kernel_rfl
def CD (m k : Nat) : Calls := callD (tabOf es) (glOf cs) m k
theorem cd_is_wordlike {m k : Nat} (args : List Cell) : CD m (k + 1) "is_wordlike" args = runBody (CD m k) (glOf cs) m d_is_wordlike args := callD_at tb_is_wordlike args
theorem cd_is_variable {m k : Nat} (args : List Cell) : CD m (k + 1) "is_variable" args = runBody (CD m k) (glOf cs) m d_is_variable args := callD_at tb_is_variable args
theorem cd_matched {m k : Nat} (args : List Cell) : CD m (k + 1) "matched" args = runBody (CD m k) (glOf cs) m d_matched args := callD_at tb_matched args
theorem cd_put_in {m k : Nat} (args : List Cell) : CD m (k + 1) "put_in" args = runBody (CD m k) (glOf cs) m d_put_in args := callD_at tb_put_in args
theorem cd_joined {m k : Nat} (args : List Cell) : CD m (k + 1) "joined" args = runBody (CD m k) (glOf cs) m d_joined args := callD_at tb_joined args
theorem cd__law_cell {m k : Nat} (args : List Cell) : CD m (k + 1) "_law_cell" args = runBody (CD m k) (glOf cs) m d__law_cell args := callD_at tb__law_cell args
theorem cd__law_state {m k : Nat} (args : List Cell) : CD m (k + 1) "_law_state" args = runBody (CD m k) (glOf cs) m d__law_state args := callD_at tb__law_state args
theorem cd__law_pick {m k : Nat} (args : List Cell) : CD m (k + 1) "_law_pick" args = runBody (CD m k) (glOf cs) m d__law_pick args := callD_at tb__law_pick args
theorem cd__law_value {m k : Nat} (args : List Cell) : CD m (k + 1) "_law_value" args = runBody (CD m k) (glOf cs) m d__law_value args := callD_at tb__law_value args
theorem cd__law_binding {m k : Nat} (args : List Cell) : CD m (k + 1) "_law_binding" args = runBody (CD m k) (glOf cs) m d__law_binding args := callD_at tb__law_binding args
theorem cd__law_terms {m k : Nat} (args : List Cell) : CD m (k + 1) "_law_terms" args = runBody (CD m k) (glOf cs) m d__law_terms args := callD_at tb__law_terms args
theorem cd__law_put {m k : Nat} (args : List Cell) : CD m (k + 1) "_law_put" args = runBody (CD m k) (glOf cs) m d__law_put args := callD_at tb__law_put args
theorem cd__law_due {m k : Nat} (args : List Cell) : CD m (k + 1) "_law_due" args = runBody (CD m k) (glOf cs) m d__law_due args := callD_at tb__law_due args
theorem cd__law_both {m k : Nat} (args : List Cell) : CD m (k + 1) "_law_both" args = runBody (CD m k) (glOf cs) m d__law_both args := callD_at tb__law_both args
theorem cd__law_like {m k : Nat} (args : List Cell) : CD m (k + 1) "_law_like" args = runBody (CD m k) (glOf cs) m d__law_like args := callD_at tb__law_like args
theorem cd__law_right {m k : Nat} (args : List Cell) : CD m (k + 1) "_law_right" args = runBody (CD m k) (glOf cs) m d__law_right args := callD_at tb__law_right args
theorem cd_law {m k : Nat} (args : List Cell) : CD m (k + 1) "law" args = runBody (CD m k) (glOf cs) m d_law args := callD_at tb_law args
theorem oks : AllP (EntOk es cs) es := ⟨ok_is_wordlike, ok_is_variable, ok_matched, ok_put_in, ok_joined, ok__law_cell, ok__law_state, ok__law_pick, ok__law_value, ok__law_binding, ok__law_terms, ok__law_put, ok__law_due, ok__law_both, ok__law_like, ok__law_right, ok_law, trivial⟩
abbrev R : PySem.W.OpenRow := PySem.W.OpenLaw.row PySem.Challenge.rw_stayledger_k05_whole_matching
def nm0 : List PySem.Str := ["SMALL", "GREAT", "FIGURES", "MOST_SIGNS", "is_wordlike", "is_variable", "matched", "put_in", "joined", "_law_cell", "_law_state", "_law_pick", "_law_value", "_law_binding", "_law_terms", "_law_put", "_law_due", "_law_both", "_law_like", "_law_right"]
def loose : List PySem.Str := nm0
abbrev hk : PySem.W.Hook := hookE 4 (faOf es) (es.map fdOf) cs
def ob (s : PySem.W.SharedT) : AlE := obsE 4 (faOf es) (es.map fdOf) cs (HandSHeadRun.getT s)
theorem ob_eq (s : PySem.W.SharedT) : ob s = hk.obs s.abs := obsE_eq (HandSHeadRun.getT_eq s)
theorem run (w : World) : HandSHeadRun.RunEq R (PySem.W.view R.prog [23]) hk ob 3000 loose w := by
  intro os
  kernel_rfl
end K05
end DE

namespace DE.K05
open PySem PySem.Spec PyProof.Rows L2 DE.Lib
/-! ### tables by texts, in plain words -/
abbrev A := List (Str × D)
def get : A -> Str -> Option D
  | [], _ => none
  | (y, v) :: r, x => if y = x then some v else get r x
def rep : A -> Str -> D -> A
  | [], _, _ => []
  | (y, w) :: r, x, v => (y, if y = x then v else w) :: rep r x v
def put (a : A) (x : Str) (v : D) : A := if (get a x).isSome then rep a x v else a ++ [(x, v)]
def ofP (ps : A) : A := ps.foldl (fun a p => put a p.1 p.2) []
def kv (a : A) : List (D × D) := a.map fun p => (.str p.1, p.2)
theorem get_kv (a : A) (x : Str) : getKV (kv a) (.inr x) = get a x := by
  induction a with
  | nil => rfl
  | cons p r ih =>
    obtain ⟨y, v⟩ := p
    show (if keyD (.str y) = some (.inr x) then some v else getKV (kv r) (.inr x)) = if y = x then some v else get r x
    by_cases e : y = x
    · subst e; rw [if_pos (show keyD (.str y) = some (.inr y) from rfl), if_pos rfl]
    · rw [if_neg e, if_neg (fun z => e (by cases z; rfl)), ih]
theorem get_int (a : A) (i : Int) : getKV (kv a) (.inl i) = none := by
  induction a with
  | nil => rfl
  | cons p r ih =>
    obtain ⟨y, v⟩ := p
    show (if keyD (.str y) = some (.inl i) then some v else getKV (kv r) (.inl i)) = none
    rw [if_neg (fun z => by cases z), ih]
theorem rep_kv (a : A) (x : Str) (v : D) : repKV (kv a) (.inr x) v = kv (rep a x v) := by
  induction a with
  | nil => rfl
  | cons p r ih =>
    obtain ⟨y, w⟩ := p
    show (PyData.str y, if keyD (.str y) = some (.inr x) then v else w) :: repKV (kv r) (.inr x) v = (PyData.str y, if y = x then v else w) :: kv (rep r x v)
    rw [ih]
    by_cases e : y = x
    · subst e; rw [if_pos (show keyD (.str y) = some (.inr y) from rfl), if_pos rfl]
    · rw [if_neg e, if_neg (fun z => e (by cases z; rfl))]
theorem put_kv (a : A) (x : Str) (v : D) : putKV (kv a) (.inr x) v = kv (put a x v) := by
  unfold putKV put
  rw [get_kv]
  by_cases e : (get a x).isSome = true
  · rw [if_pos e, if_pos e, rep_kv]
  · rw [if_neg e, if_neg e]
    unfold kv
    rw [List.map_append]; rfl
theorem fold_kv (ps : A) : ∀ a : A, mergeKV (kv a) (ps.map fun p => (.inr p.1, p.2)) = kv (ps.foldl (fun a p => put a p.1 p.2) a) := by
  induction ps with
  | nil => intro a; rfl
  | cons p r ih =>
    intro a
    show mergeKV (putKV (kv a) (.inr p.1) p.2) (r.map fun p => (.inr p.1, p.2)) = kv (r.foldl _ (put a p.1 p.2))
    rw [put_kv, ih]
theorem merge_kv (ps : A) : mergeKV [] (ps.map fun p => (.inr p.1, p.2)) = kv (ofP ps) := fold_kv ps []
/-- a binding as it is handed on -/
abbrev bd (ps : A) : D := .tuple (ps.map fun p => .tuple [.str p.1, p.2])
theorem pairs_bd (ps : A) : pairsOf (ps.map fun p => .tuple [.str p.1, p.2]) = some (ps.map fun p => (.inr p.1, p.2)) := by
  induction ps with
  | nil => rfl
  | cons p r ih =>
    rw [List.map_cons]
    show (match keyD (.str p.1), pairsOf (r.map _) with
      | some k, some ps => some ((k, p.2) :: ps)
      | _, _ => none) = _
    rw [ih]; rfl
theorem ks_kv (a : A) : strKs (kv a) = some (a.map (·.1)) := by
  induction a with
  | nil => rfl
  | cons p r ih =>
    show (strKs (kv r)).map (p.1 :: ·) = _
    rw [ih]; rfl
theorem get_none {a : A} {x : Str} : get a x = none ↔ x ∉ a.map (·.1) := by
  induction a with
  | nil => simp [get]
  | cons p r ih =>
    obtain ⟨y, v⟩ := p
    show (if y = x then some v else get r x) = none ↔ _
    rw [List.map_cons, List.mem_cons, not_or]
    by_cases e : y = x
    · rw [if_pos e]; simp [e]
    · rw [if_neg e, ih]
      exact ⟨fun h => ⟨fun z => e z.symm, h⟩, fun h => h.2⟩
theorem get_rep (a : A) (x y : Str) (v : D) : get (rep a x v) y = (get a y).map fun w => if y = x then v else w := by
  induction a with
  | nil => rfl
  | cons p r ih =>
    obtain ⟨z, w⟩ := p
    show (if z = y then some (if z = x then v else w) else get (rep r x v) y) = Option.map _ (if z = y then some w else get r y)
    by_cases e : z = y
    · subst e; rw [if_pos rfl, if_pos rfl]; rfl
    · rw [if_neg e, if_neg e, ih]
theorem get_snoc (a : A) (x y : Str) (v : D) (h : get a x = none) : get (a ++ [(x, v)]) y = if y = x then some v else get a y := by
  induction a with
  | nil =>
    show (if x = y then some v else none) = _
    by_cases e : x = y
    · rw [if_pos e, if_pos e.symm]
    · rw [if_neg e, if_neg (fun z => e z.symm)]; rfl
  | cons p r ih =>
    obtain ⟨z, w⟩ := p
    have h : (if z = x then some w else get r x) = none := h
    have hz : ¬ z = x := fun e => by rw [if_pos e] at h; cases h
    rw [if_neg hz] at h
    show (if z = y then some w else get (r ++ [(x, v)]) y) = if y = x then some v else if z = y then some w else get r y
    rw [ih h]
    by_cases e : z = y
    · subst e; rw [if_pos rfl, if_neg hz, if_pos rfl]
    · rw [if_neg e, if_neg e]
theorem get_put (a : A) (x y : Str) (v : D) : get (put a x v) y = if y = x then some v else get a y := by
  unfold put
  by_cases e : (get a x).isSome = true
  · rw [if_pos e, get_rep]
    by_cases q : y = x
    · subst q
      obtain ⟨w, hw⟩ := Option.isSome_iff_exists.mp e
      rw [hw, if_pos rfl]; simp
    · rw [if_neg q]
      cases get a y with
      | none => rfl
      | some w => simp [q]
  · rw [if_neg e]
    exact get_snoc a x y v (by cases q : get a x with
      | none => rfl
      | some _ => rw [q] at e; exact absurd rfl e)
theorem rep_keys (a : A) (x : Str) (v : D) : (rep a x v).map (·.1) = a.map (·.1) := by
  induction a with
  | nil => rfl
  | cons p r ih => show p.1 :: (rep r x v).map (·.1) = _; rw [ih]; rfl
theorem put_nodup {a : A} (h : (a.map (·.1)).Nodup) (x : Str) (v : D) : ((put a x v).map (·.1)).Nodup := by
  unfold put
  by_cases e : (get a x).isSome = true
  · rw [if_pos e, rep_keys]; exact h
  · rw [if_neg e, List.map_append]
    have hn : get a x = none := by cases q : get a x with
      | none => rfl
      | some _ => rw [q] at e; exact absurd rfl e
    rw [List.nodup_append]
    refine ⟨h, by simp, fun y hy z hz => ?_⟩
    simp at hz
    subst hz
    rintro rfl
    exact get_none.mp hn hy
theorem fold_nodup (ps : A) : ∀ a : A, (a.map (·.1)).Nodup -> ((ps.foldl (fun a p => put a p.1 p.2) a).map (·.1)).Nodup := by
  induction ps with
  | nil => exact fun _ h => h
  | cons p r ih => exact fun a h => ih _ (put_nodup h _ _)
theorem ofP_nodup (ps : A) : ((ofP ps).map (·.1)).Nodup := fold_nodup ps [] (by simp)
theorem fold_get (ps : A) : ∀ (a : A) (x : Str), (ps.map (·.1)).Nodup -> get (ps.foldl (fun a p => put a p.1 p.2) a) x = (get ps x).or (get a x) := by
  induction ps with
  | nil => intro a x _; rfl
  | cons p r ih =>
    intro a x nd
    rw [List.map_cons, List.nodup_cons] at nd
    show get (r.foldl _ (put a p.1 p.2)) x = (if p.1 = x then some p.2 else get r x).or (get a x)
    rw [ih _ _ nd.2, get_put]
    by_cases e : p.1 = x
    · subst e
      rw [if_pos rfl, if_pos rfl]
      have hn : get r p.1 = none := get_none.mpr nd.1
      rw [hn]; rfl
    · rw [if_neg e, if_neg (fun z => e z.symm)]
theorem get_ofP {ps : A} (nd : (ps.map (·.1)).Nodup) (x : Str) : get (ofP ps) x = get ps x := by
  unfold ofP
  rw [fold_get ps [] x nd]
  cases get ps x <;> rfl
theorem mem_get {a : A} (nd : (a.map (·.1)).Nodup) {x : Str} {v : D} : (x, v) ∈ a ↔ get a x = some v := by
  induction a with
  | nil => simp [get]
  | cons p r ih =>
    obtain ⟨y, w⟩ := p
    rw [List.map_cons, List.nodup_cons] at nd
    show _ ↔ (if y = x then some w else get r x) = some v
    rw [List.mem_cons, ih nd.2]
    by_cases e : y = x
    · subst e
      rw [if_pos rfl]
      have hn : get r y = none := get_none.mpr nd.1
      rw [hn]
      constructor
      · rintro (h | h)
        · cases h; rfl
        · cases h
      · intro h; cases h; exact .inl rfl
    · rw [if_neg e]
      constructor
      · rintro (h | h)
        · cases h; exact absurd rfl e
        · exact h
      · exact .inr
theorem mem_keys {a : A} {x : Str} : x ∈ a.map (·.1) ↔ (get a x).isSome = true := by
  have z := @get_none a x
  cases q : get a x with
  | none => rw [q] at z; simpa using z.mp rfl
  | some v =>
    rw [q] at z
    simp only [Option.isSome_some, iff_true]
    exact Classical.byContradiction fun h => by cases z.mpr h
/-! ### a table in order -/
def asc (a : A) : A := (srtS (a.map (·.1))).map fun x => (x, (get a x).getD .none)
theorem asc_keys (a : A) : (asc a).map (·.1) = srtS (a.map (·.1)) := by
  unfold asc
  rw [List.map_map]
  exact List.map_id _
theorem asc_nodup {a : A} (nd : (a.map (·.1)).Nodup) : ((asc a).map (·.1)).Nodup := by
  rw [asc_keys]
  exact (srtS_perm _).nodup_iff.mpr nd
theorem get_map (f : Str -> D) (xs : List Str) (x : Str) : get (xs.map fun y => (y, f y)) x = if x ∈ xs then some (f x) else none := by
  induction xs with
  | nil => rfl
  | cons y r ih =>
    show (if y = x then some (f y) else get (r.map fun y => (y, f y)) x) = _
    rw [ih]
    by_cases e : y = x
    · subst e; simp
    · rw [if_neg e]
      have : x ∈ y :: r ↔ x ∈ r := by rw [List.mem_cons]; exact ⟨fun h => h.resolve_left fun z => e z.symm, .inr⟩
      simp only [this]
theorem get_asc (a : A) (x : Str) : get (asc a) x = get a x := by
  unfold asc
  rw [get_map (fun x => (get a x).getD .none)]
  have h1 : x ∈ srtS (a.map (·.1)) ↔ x ∈ a.map (·.1) := (srtS_perm _).mem_iff
  by_cases e : x ∈ srtS (a.map (·.1))
  · rw [if_pos e]
    obtain ⟨v, hv⟩ := Option.isSome_iff_exists.mp (mem_keys.mp (h1.mp e))
    rw [hv]; rfl
  · rw [if_neg e]
    exact (get_none.mpr fun z => e (h1.mpr z)).symm
/-- tables that tell the same are in order the same -/
theorem asc_eq {a b : A} (na : (a.map (·.1)).Nodup) (nb : (b.map (·.1)).Nodup) (h : ∀ x, get a x = get b x) : asc a = asc b := by
  have p : (a.map (·.1)).Perm (b.map (·.1)) := (List.perm_ext_iff_of_nodup na nb).mpr fun x => by rw [mem_keys, mem_keys, h]
  have e : srtS (a.map (·.1)) = srtS (b.map (·.1)) := perm_one str_anti (srtS_sorted _) (srtS_sorted _) ((srtS_perm _).trans (p.trans (srtS_perm _).symm))
  unfold asc
  rw [e]
  exact List.map_congr_left fun x _ => by rw [h]
end DE.K05

namespace DE.K05
open PySem PySem.Spec PyProof.Rows L2 DE.Lib
section
variable {m : Nat}
abbrev six : List Str := ["a", "b", "X", "Y", "Y0", "Zab"]
abbrev vars : List Str := ["X", "Y", "Y0", "Zab"]
/-- terms -/
inductive Tm : D -> Prop
  | int (n : Int) : Tm (.int n)
  | str (z : Str) : z ∈ six -> Tm (.str z)
def var : D -> Bool
  | .str z => decide (z ∈ vars)
  | _ => false
/-- values: flat -/
inductive Fl1 : D -> Prop
  | int (n : Int) : Fl1 (.int n)
  | str (z : Str) : Fl1 (.str z)
theorem Tm.fl {d : D} (h : Tm d) : Fl1 d := by
  cases h with
  | int n => exact .int n
  | str z _ => exact .str z
theorem eqv_fl {a b : D} (ha : Fl1 a) (hb : Fl1 b) : PyData.eqv a b = true ↔ a = b := by
  cases ha <;> cases hb <;> simp [PyData.eqv]
theorem eqv_refl {a : D} (ha : Fl1 a) : PyData.eqv a a = true := (eqv_fl ha ha).mpr rfl
theorem eqOk_fl {a : D} (ha : Fl1 a) : eqOk a = true := by cases ha <;> rfl
theorem wlh : WlH (tabOf es) (glOf cs) := ⟨tb_is_wordlike, gl_SMALL, gl_FIGURES, gl_MOST_SIGNS⟩
theorem str_back (z : Str) : (⟨z.cps.toList.toArray⟩ : Str) = z := by cases z; simp
theorem six_var : ∀ z ∈ six, wlL sGR z.cps.toList = decide (z ∈ vars) := by decide +kernel
theorem six_up : ∀ z ∈ six, Txt.isupper (cutS z none (some 1)) = decide (z ∈ vars) := by decide +kernel
theorem six_len : ∀ z ∈ six, z.cps.toList.length ≤ 1000 := by decide +kernel
theorem isvar_ok (k : Nat) (d : D) (h : Tm d) : CD m (k + 2) "is_variable" [.pure d] = .ret (.pure (.bool (var d))) [.pure d] := by
  cases h with
  | int n =>
    have z : CD m (k + 1) "is_wordlike" [.pure (.int n), .pure (.str sGR)] = .ret (.pure (.bool false)) [.pure (.int n), .pure (.str sGR)] := wordlike_int wlh k n sGR
    rw [cd_is_variable]
    simp [d_is_variable, b_is_variable, runBody, execSs, execS, evalE, evalT, evalEs, evalRs, evalAs, evalI, evalO, evalC, bind_ok, bind_ex, bind_no, settle, rd, Cell.rd, bltD, lenD, ofO, tk, asgC, two, rdTo, cmpD, ordD, binD, truthD, esc, retV, outsOf, setC, hasV, setD, Cell.isOwn, backTo1, idxD, callA, arCells, arCell, refsOf, putBack, size2, gl_GREAT, z, var]
  | str z hz =>
    have e := is_variable_str (m := m) wlh tb_is_variable gl_GREAT k z.cps.toList (six_len z hz)
    rw [str_back, six_var z hz] at e
    exact e
/-! ### the program's own loops, in plain words -/
def mstep (a : A) (t v : D) : Option A := match t with
  | .str x => if decide (x ∈ vars) = true then match get a x with
      | none => some (put a x v)
      | some w => if PyData.eqv w v = true then some a else none
    else if PyData.eqv t v = true then some a else none
  | t => if PyData.eqv t v = true then some a else none
def mrun : A -> List (D × D) -> Option A
  | a, [] => some a
  | a, p :: r => match mstep a p.1 p.2 with
    | none => none
    | some a' => mrun a' r
theorem put_len (a : A) (x : Str) (v : D) : (put a x v).length ≤ a.length + 1 := by
  unfold put
  by_cases e : (get a x).isSome = true
  · rw [if_pos e]
    have z := congrArg List.length (rep_keys a x v)
    rw [List.length_map, List.length_map] at z
    omega
  · rw [if_neg e, List.length_append]; simp
theorem step_len {a a' : A} {t v : D} (h : mstep a t v = some a') : a'.length ≤ a.length + 1 := by
  unfold mstep at h
  cases t with
  | str x =>
    simp only at h
    split at h
    · split at h
      · cases h; exact put_len _ _ _
      · split at h <;> cases h; omega
    · split at h <;> cases h; omega
  | _ =>
    simp only at h
    split at h <;> cases h; omega
abbrev pr (p : D × D) : D := .tuple [p.1, p.2]
abbrev nin (c : Cell) : Prop := ∀ d, c ≠ Cell.inp d
theorem idx_kv (a : A) (x : Str) : (keyD (.str x)).bind (getKV (kv a)) = get a x := get_kv a x
theorem kv_len (a : A) : (kv a).length = a.length := List.length_map _
theorem m_loop (k : Nat) (T V B : Cell) : ∀ (zs : List (D × D)) (a : A) (c4 c5 : Cell), (∀ z ∈ zs, Tm z.1 ∧ Fl1 z.2) -> (∀ x w, get a x = some w -> Fl1 w) -> a.length + zs.length ≤ 1000 -> nin c4 -> nin c5 ->
    match mrun a zs with
    | none => ∃ δ, forLoop (forBody (.tp [.nm 4, .nm 5]) (execSs (CD m (k + 2)) (glOf cs) m w1_matched)) (zs.map pr) [T, V, B, .own (.dict (kv a)), c4, c5] = .ok (.rt (.pure .none)) δ ∧ ∃ d d4 d5, δ = [T, V, B, d, d4, d5]
    | some a' => ∃ c4' c5', forLoop (forBody (.tp [.nm 4, .nm 5]) (execSs (CD m (k + 2)) (glOf cs) m w1_matched)) (zs.map pr) [T, V, B, .own (.dict (kv a)), c4, c5] = .ok .nx [T, V, B, .own (.dict (kv a')), c4', c5']
  | [], a, c4, c5, _, _, _, _, _ => ⟨c4, c5, rfl⟩
  | (t, v) :: r, a, c4, c5, hz, hg, hl, n4, n5 => by
    obtain ⟨ht, hv⟩ := hz _ (List.mem_cons_self ..)
    rw [List.length_cons] at hl
    have iv := isvar_ok (m := m) k t ht
    have et := eqOk_fl ht.fl
    have ev := eqOk_fl hv
    have zl : a.length < sizeLine := by have := sl; omega
    have one : match mstep a t v with
      | none => ∃ δ, forBody (.tp [.nm 4, .nm 5]) (execSs (CD m (k + 2)) (glOf cs) m w1_matched) (pr (t, v)) [T, V, B, .own (.dict (kv a)), c4, c5] = .ok (.rt (.pure .none)) δ ∧ ∃ d d4 d5, δ = [T, V, B, d, d4, d5]
      | some a' => forBody (.tp [.nm 4, .nm 5]) (execSs (CD m (k + 2)) (glOf cs) m w1_matched) (pr (t, v)) [T, V, B, .own (.dict (kv a)), c4, c5] = .ok .nx [T, V, B, .own (.dict (kv a')), .pure t, .pure v] := by
      have a4 : asgD (.tp [.nm 4, .nm 5]) (pr (t, v)) [T, V, B, .own (.dict (kv a)), c4, c5] = some [T, V, B, .own (.dict (kv a)), .pure t, .pure v] := by
        cases c4 with
        | inp d => exact absurd rfl (n4 d)
        | _ => cases c5 with
          | inp d => exact absurd rfl (n5 d)
          | _ => simp [asgD, asgDs]
      unfold forBody
      rw [a4]
      cases ht with
      | int n =>
        have iv : CD m (k + 2) "is_variable" [.pure (.int n)] = .ret (.pure (.bool false)) [.pure (.int n)] := iv
        show match (if PyData.eqv (.int n) v = true then some a else none : Option A) with
          | none => _
          | some a' => _
        cases he : PyData.eqv (.int n) v
        · simp [w1_matched, runBody, execSs, execS, evalE, evalT, evalEs, evalRs, evalAs, evalI, evalO, evalC, bind_ok, bind_ex, bind_no, settle, rd, Cell.rd, bltD, lenD, ofO, tk, asgC, two, rdTo, cmpD, ordD, binD, truthD, esc, retV, outsOf, setC, hasV, setD, Cell.isOwn, backTo1, idxD, callA, arCells, arCell, refsOf, putBack, size2, iv, eqD, et, ev, he]
        · simp [w1_matched, runBody, execSs, execS, evalE, evalT, evalEs, evalRs, evalAs, evalI, evalO, evalC, bind_ok, bind_ex, bind_no, settle, rd, Cell.rd, bltD, lenD, ofO, tk, asgC, two, rdTo, cmpD, ordD, binD, truthD, esc, retV, outsOf, setC, hasV, setD, Cell.isOwn, backTo1, idxD, callA, arCells, arCell, refsOf, putBack, size2, iv, eqD, et, ev, he]
      | str x hx =>
        cases hvar : decide (x ∈ vars)
        · have iv : CD m (k + 2) "is_variable" [.pure (.str x)] = .ret (.pure (.bool false)) [.pure (.str x)] := by rw [← hvar]; exact iv
          show match (if decide (x ∈ vars) = true then _ else if PyData.eqv (.str x) v = true then some a else none : Option A) with
            | none => _
            | some a' => _
          rw [hvar]
          cases he : PyData.eqv (.str x) v
          · simp [w1_matched, runBody, execSs, execS, evalE, evalT, evalEs, evalRs, evalAs, evalI, evalO, evalC, bind_ok, bind_ex, bind_no, settle, rd, Cell.rd, bltD, lenD, ofO, tk, asgC, two, rdTo, cmpD, ordD, binD, truthD, esc, retV, outsOf, setC, hasV, setD, Cell.isOwn, backTo1, idxD, callA, arCells, arCell, refsOf, putBack, size2, iv, eqD, et, ev, he]
          · simp [w1_matched, runBody, execSs, execS, evalE, evalT, evalEs, evalRs, evalAs, evalI, evalO, evalC, bind_ok, bind_ex, bind_no, settle, rd, Cell.rd, bltD, lenD, ofO, tk, asgC, two, rdTo, cmpD, ordD, binD, truthD, esc, retV, outsOf, setC, hasV, setD, Cell.isOwn, backTo1, idxD, callA, arCells, arCell, refsOf, putBack, size2, iv, eqD, et, ev, he]
        · have iv : CD m (k + 2) "is_variable" [.pure (.str x)] = .ret (.pure (.bool true)) [.pure (.str x)] := by rw [← hvar]; exact iv
          show match (if decide (x ∈ vars) = true then (match get a x with
              | none => some (put a x v)
              | some w => if PyData.eqv w v = true then some a else none) else _ : Option A) with
            | none => _
            | some a' => _
          rw [hvar]
          have gx := get_kv a x
          cases hgx : get a x with
          | none =>
            rw [hgx] at gx
            have pk := put_kv a x v
            simp [w1_matched, runBody, execSs, execS, evalE, evalT, evalEs, evalRs, evalAs, evalI, evalO, evalC, bind_ok, bind_ex, bind_no, settle, rd, Cell.rd, bltD, lenD, ofO, tk, asgC, two, rdTo, cmpD, ordD, binD, truthD, esc, retV, outsOf, setC, hasV, setD, Cell.isOwn, backTo1, idxD, callA, arCells, arCell, refsOf, putBack, size2, iv, inD, keyD, gx, kv_len, zl, pk]
          | some w =>
            rw [hgx] at gx
            have ew := eqOk_fl (hg x w hgx)
            cases he : PyData.eqv w v
            · simp [w1_matched, runBody, execSs, execS, evalE, evalT, evalEs, evalRs, evalAs, evalI, evalO, evalC, bind_ok, bind_ex, bind_no, settle, rd, Cell.rd, bltD, lenD, ofO, tk, asgC, two, rdTo, cmpD, ordD, binD, truthD, esc, retV, outsOf, setC, hasV, setD, Cell.isOwn, backTo1, idxD, callA, arCells, arCell, refsOf, putBack, size2, iv, inD, keyD, gx, eqD, ew, ev, he]
            · simp [w1_matched, runBody, execSs, execS, evalE, evalT, evalEs, evalRs, evalAs, evalI, evalO, evalC, bind_ok, bind_ex, bind_no, settle, rd, Cell.rd, bltD, lenD, ofO, tk, asgC, two, rdTo, cmpD, ordD, binD, truthD, esc, retV, outsOf, setC, hasV, setD, Cell.isOwn, backTo1, idxD, callA, arCells, arCell, refsOf, putBack, size2, iv, inD, keyD, gx, eqD, ew, ev, he]
    show match (match mstep a t v with
      | none => none
      | some a' => mrun a' r) with
      | none => _
      | some a' => _
    cases hs : mstep a t v with
    | none =>
      rw [hs] at one
      obtain ⟨δ, e, h2⟩ := one
      refine ⟨δ, ?_, h2⟩
      show forLoop _ (pr (t, v) :: r.map pr) _ = _
      simp only [forLoop, e]
    | some a' =>
      rw [hs] at one
      have hg' : ∀ x w, get a' x = some w -> Fl1 w := by
        intro y w hw
        unfold mstep at hs
        cases ht with
        | int n =>
          simp only at hs
          split at hs <;> cases hs
          exact hg y w hw
        | str x hx =>
          simp only at hs
          split at hs
          · split at hs
            · cases hs
              rw [get_put] at hw
              split at hw
              · cases hw; exact hv
              · exact hg y w hw
            · split at hs <;> cases hs
              exact hg y w hw
          · split at hs <;> cases hs
            exact hg y w hw
      have hl' := step_len hs
      have ih := m_loop k T V B r a' (.pure t) (.pure v) (fun z hz' => hz z (List.mem_cons_of_mem _ hz')) hg' (by omega) (fun _ h => by cases h) (fun _ h => by cases h)
      have fl : forLoop (forBody (.tp [.nm 4, .nm 5]) (execSs (CD m (k + 2)) (glOf cs) m w1_matched)) (((t, v) :: r).map pr) [T, V, B, .own (.dict (kv a)), c4, c5] = forLoop (forBody (.tp [.nm 4, .nm 5]) (execSs (CD m (k + 2)) (glOf cs) m w1_matched)) (r.map pr) [T, V, B, .own (.dict (kv a')), .pure t, .pure v] := by
        show forLoop _ (pr (t, v) :: r.map pr) _ = _
        simp only [forLoop, one]
      rw [fl]
      exact ih
end
end DE.K05

namespace DE.K05
open PySem PySem.Spec PyProof.Rows L2 DE.Lib
section
variable {m : Nat}
/-- a table's values are flat -/
abbrev Fv (a : A) : Prop := ∀ x w, get a x = some w -> Fl1 w
abbrev Nd (a : A) : Prop := (a.map (·.1)).Nodup
theorem fv_put {a : A} {x : Str} {v : D} (h : Fv a) (hv : Fl1 v) : Fv (put a x v) := by
  intro y w hw
  rw [get_put] at hw
  split at hw
  · cases hw; exact hv
  · exact h y w hw
theorem rep_none {y : Str} {v : D} : ∀ {r : A}, get r y = none -> rep r y v = r
  | [], _ => rfl
  | (z, u) :: r, hn => by
    have hn : (if z = y then some u else get r y) = none := hn
    have hz : ¬ z = y := fun e => by rw [if_pos e] at hn; cases hn
    rw [if_neg hz] at hn
    show (z, if z = y then v else u) :: rep r y v = _
    rw [if_neg hz, rep_none hn]
theorem put_same {a : A} {x : Str} {v : D} (nd : Nd a) (h : get a x = some v) : put a x v = a := by
  unfold put
  rw [h, if_pos (show (some v).isSome = true from rfl)]
  induction a with
  | nil => rfl
  | cons p r ih =>
    obtain ⟨y, w⟩ := p
    have nd' : y ∉ r.map (·.1) ∧ Nd r := by
      have z : ((y, w).1 :: r.map (·.1)).Nodup := nd
      exact List.nodup_cons.mp z
    have h : (if y = x then some w else get r x) = some v := h
    show (y, if y = x then v else w) :: rep r x v = _
    by_cases e : y = x
    · subst e
      rw [if_pos rfl] at h ⊢
      cases h
      have : rep r y v = r := rep_none (get_none.mpr nd'.1)
      rw [this]
    · rw [if_neg e] at h ⊢
      rw [ih nd'.2 h]
theorem mrun_nd {zs : List (D × D)} : ∀ {a a' : A}, Nd a -> mrun a zs = some a' -> Nd a' := by
  induction zs with
  | nil => intro a a' h e; cases e; exact h
  | cons p r ih =>
    intro a a' h e
    unfold mrun at e
    cases hs : mstep a p.1 p.2 with
    | none => rw [hs] at e; cases e
    | some b =>
      rw [hs] at e
      refine ih ?_ e
      unfold mstep at hs
      split at hs
      · split at hs
        · split at hs
          · cases hs; exact put_nodup h _ _
          · split at hs <;> cases hs; exact h
        · split at hs <;> cases hs; exact h
      · split at hs <;> cases hs; exact h
theorem mstep_fv {a a' : A} {t v : D} (h : Fv a) (hv : Fl1 v) (e : mstep a t v = some a') : Fv a' := by
  unfold mstep at e
  split at e
  · split at e
    · split at e
      · cases e; exact fv_put h hv
      · split at e <;> cases e; exact h
    · split at e <;> cases e; exact h
  · split at e <;> cases e; exact h
theorem mrun_fv {zs : List (D × D)} : ∀ {a a' : A}, Fv a -> (∀ z ∈ zs, Fl1 z.2) -> mrun a zs = some a' -> Fv a' := by
  induction zs with
  | nil => intro a a' h _ e; cases e; exact h
  | cons p r ih =>
    intro a a' h hz e
    unfold mrun at e
    cases hs : mstep a p.1 p.2 with
    | none => rw [hs] at e; cases e
    | some b =>
      rw [hs] at e
      exact ih (mstep_fv h (hz p (List.mem_cons_self ..)) hs) (fun z hz' => hz z (List.mem_cons_of_mem _ hz')) e
/-- the law's own loop does the same -/
theorem d_loop (k : Nat) (ts vs : List D) (B : Cell) (e5 : Cell) : ∀ (zs : List (D × D)) (i : Nat) (a : A) (c4 : Cell), (∀ j p, zs[j]? = some p -> ts[i + j]? = some p.1 ∧ vs[i + j]? = some p.2) -> (∀ z ∈ zs, Tm z.1 ∧ Fl1 z.2) -> Fv a -> Nd a -> a.length + zs.length ≤ 1000 -> nin c4 ->
    match mrun a zs with
    | none => ∃ δ, forLoop (forBody (.nm 4) (execSs (CD m k) (glOf cs) m w1__law_due)) ((List.range' i zs.length).map fun j => .int (j : Nat)) [.pure (.tuple ts), .pure (.tuple vs), B, .own (.dict (kv a)), c4, e5] = .ok (.rt (.pure .none)) δ ∧ ∃ d d4, δ = [.pure (.tuple ts), .pure (.tuple vs), B, d, d4, e5]
    | some a' => ∃ c4', forLoop (forBody (.nm 4) (execSs (CD m k) (glOf cs) m w1__law_due)) ((List.range' i zs.length).map fun j => .int (j : Nat)) [.pure (.tuple ts), .pure (.tuple vs), B, .own (.dict (kv a)), c4, e5] = .ok .nx [.pure (.tuple ts), .pure (.tuple vs), B, .own (.dict (kv a')), c4', e5]
  | [], i, a, c4, _, _, _, _, _, _ => ⟨c4, rfl⟩
  | (t, v) :: r, i, a, c4, hat, hz, hg, nd, hl, n4 => by
    obtain ⟨ht, hv⟩ := hz _ (List.mem_cons_self ..)
    rw [List.length_cons] at hl
    obtain ⟨q1, q2⟩ := hat 0 (t, v) rfl
    have a1 : atI ts (i : Int) = some t := atI_nat q1
    have a2 : atI vs (i : Int) = some v := atI_nat q2
    have et := eqOk_fl ht.fl
    have ev := eqOk_fl hv
    have zl : a.length < sizeLine := by have := sl; omega
    have one : match mstep a t v with
      | none => ∃ δ, forBody (.nm 4) (execSs (CD m k) (glOf cs) m w1__law_due) (.int (i : Nat)) [.pure (.tuple ts), .pure (.tuple vs), B, .own (.dict (kv a)), c4, e5] = .ok (.rt (.pure .none)) δ ∧ ∃ d d4, δ = [.pure (.tuple ts), .pure (.tuple vs), B, d, d4, e5]
      | some a' => forBody (.nm 4) (execSs (CD m k) (glOf cs) m w1__law_due) (.int (i : Nat)) [.pure (.tuple ts), .pure (.tuple vs), B, .own (.dict (kv a)), c4, e5] = .ok .nx [.pure (.tuple ts), .pure (.tuple vs), B, .own (.dict (kv a')), .pure (.int (i : Nat)), e5] := by
      have a4 : asgD (.nm 4) (.int (i : Nat)) [.pure (.tuple ts), .pure (.tuple vs), B, .own (.dict (kv a)), c4, e5] = some [.pure (.tuple ts), .pure (.tuple vs), B, .own (.dict (kv a)), .pure (.int (i : Nat)), e5] := by
        cases c4 with
        | inp d => exact absurd rfl (n4 d)
        | _ => simp [asgD]
      unfold forBody
      rw [a4]
      cases ht with
      | int n =>
        show match (if PyData.eqv (.int n) v = true then some a else none : Option A) with
          | none => _
          | some a' => _
        cases he : PyData.eqv (.int n) v
        · simp [w1__law_due, runBody, execSs, execS, evalE, evalT, evalEs, evalRs, evalAs, evalI, evalO, evalC, bind_ok, bind_ex, bind_no, settle, rd, Cell.rd, bltD, lenD, ofO, tk, asgC, two, rdTo, cmpD, ordD, binD, truthD, esc, retV, outsOf, setC, hasV, setD, Cell.isOwn, backTo1, idxD, callA, arCells, arCell, refsOf, putBack, size2, a1, a2, isiD, eqD, et, ev, he]
        · simp [w1__law_due, runBody, execSs, execS, evalE, evalT, evalEs, evalRs, evalAs, evalI, evalO, evalC, bind_ok, bind_ex, bind_no, settle, rd, Cell.rd, bltD, lenD, ofO, tk, asgC, two, rdTo, cmpD, ordD, binD, truthD, esc, retV, outsOf, setC, hasV, setD, Cell.isOwn, backTo1, idxD, callA, arCells, arCell, refsOf, putBack, size2, a1, a2, isiD, eqD, et, ev, he]
      | str x hx =>
        have up := six_up x hx
        have zx : x.length ≤ sizeLine := by
          have z := six_len x hx
          rw [Array.length_toList] at z
          show x.cps.size ≤ _
          have := sl
          omega
        cases hvar : decide (x ∈ vars)
        · rw [hvar] at up
          show match (if decide (x ∈ vars) = true then _ else if PyData.eqv (.str x) v = true then some a else none : Option A) with
            | none => _
            | some a' => _
          rw [hvar]
          cases he : PyData.eqv (.str x) v
          · simp [w1__law_due, runBody, execSs, execS, evalE, evalT, evalEs, evalRs, evalAs, evalI, evalO, evalC, bind_ok, bind_ex, bind_no, settle, rd, Cell.rd, bltD, lenD, ofO, tk, asgC, two, rdTo, cmpD, ordD, binD, truthD, esc, retV, outsOf, setC, hasV, setD, Cell.isOwn, backTo1, idxD, callA, arCells, arCell, refsOf, putBack, size2, a1, a2, isiD, slcD, zx, okTy, mthA, mthD, up, eqD, et, ev, he]
          · simp [w1__law_due, runBody, execSs, execS, evalE, evalT, evalEs, evalRs, evalAs, evalI, evalO, evalC, bind_ok, bind_ex, bind_no, settle, rd, Cell.rd, bltD, lenD, ofO, tk, asgC, two, rdTo, cmpD, ordD, binD, truthD, esc, retV, outsOf, setC, hasV, setD, Cell.isOwn, backTo1, idxD, callA, arCells, arCell, refsOf, putBack, size2, a1, a2, isiD, slcD, zx, okTy, mthA, mthD, up, eqD, et, ev, he]
        · rw [hvar] at up
          show match (if decide (x ∈ vars) = true then (match get a x with
              | none => some (put a x v)
              | some w => if PyData.eqv w v = true then some a else none) else _ : Option A) with
            | none => _
            | some a' => _
          rw [hvar]
          have gx := get_kv a x
          have pk := put_kv a x v
          cases hgx : get a x with
          | none =>
            rw [hgx] at gx
            simp [w1__law_due, runBody, execSs, execS, evalE, evalT, evalEs, evalRs, evalAs, evalI, evalO, evalC, bind_ok, bind_ex, bind_no, settle, rd, Cell.rd, bltD, lenD, ofO, tk, asgC, two, rdTo, cmpD, ordD, binD, truthD, esc, retV, outsOf, setC, hasV, setD, Cell.isOwn, backTo1, idxD, callA, arCells, arCell, refsOf, putBack, size2, a1, a2, isiD, slcD, zx, okTy, mthA, mthD, up, inD, keyD, gx, kv_len, zl, pk]
          | some w =>
            rw [hgx] at gx
            have ew := eqOk_fl (hg x w hgx)
            cases he : PyData.eqv w v
            · simp [w1__law_due, runBody, execSs, execS, evalE, evalT, evalEs, evalRs, evalAs, evalI, evalO, evalC, bind_ok, bind_ex, bind_no, settle, rd, Cell.rd, bltD, lenD, ofO, tk, asgC, two, rdTo, cmpD, ordD, binD, truthD, esc, retV, outsOf, setC, hasV, setD, Cell.isOwn, backTo1, idxD, callA, arCells, arCell, refsOf, putBack, size2, a1, a2, isiD, slcD, zx, okTy, mthA, mthD, up, inD, keyD, gx, eqD, ew, ev, he]
            · have ew2 : w = v := (eqv_fl (hg x w hgx) hv).mp he
              subst ew2
              have ps := put_same nd hgx
              rw [ps] at pk
              simp [w1__law_due, runBody, execSs, execS, evalE, evalT, evalEs, evalRs, evalAs, evalI, evalO, evalC, bind_ok, bind_ex, bind_no, settle, rd, Cell.rd, bltD, lenD, ofO, tk, asgC, two, rdTo, cmpD, ordD, binD, truthD, esc, retV, outsOf, setC, hasV, setD, Cell.isOwn, backTo1, idxD, callA, arCells, arCell, refsOf, putBack, size2, a1, a2, isiD, slcD, zx, okTy, mthA, mthD, up, inD, keyD, gx, eqD, ew, ev, he, kv_len, zl, pk]
    show match (match mstep a t v with
      | none => none
      | some a' => mrun a' r) with
      | none => _
      | some a' => _
    cases hs : mstep a t v with
    | none =>
      rw [hs] at one
      obtain ⟨δ, e, h2⟩ := one
      refine ⟨δ, ?_, h2⟩
      show forLoop _ (.int (i : Nat) :: _) _ = _
      simp only [forLoop, e]
    | some a' =>
      rw [hs] at one
      have hg' := mstep_fv hg hv hs
      have nd' : Nd a' := mrun_nd (zs := [(t, v)]) nd (by unfold mrun; rw [hs]; rfl)
      have hl' := step_len hs
      have ih := d_loop k ts vs B e5 r (i + 1) a' (.pure (.int (i : Nat))) (fun j p hp => by
        have z := hat (j + 1) p (by simpa using hp)
        rw [show i + 1 + j = i + (j + 1) by omega]
        exact z) (fun z hz' => hz z (List.mem_cons_of_mem _ hz')) hg' nd' (by omega) (fun _ h => by cases h)
      have fl : forLoop (forBody (.nm 4) (execSs (CD m k) (glOf cs) m w1__law_due)) ((List.range' i ((t, v) :: r).length).map fun j => .int (j : Nat)) [.pure (.tuple ts), .pure (.tuple vs), B, .own (.dict (kv a)), c4, e5] = forLoop (forBody (.nm 4) (execSs (CD m k) (glOf cs) m w1__law_due)) ((List.range' (i + 1) r.length).map fun j => .int (j : Nat)) [.pure (.tuple ts), .pure (.tuple vs), B, .own (.dict (kv a')), .pure (.int (i : Nat)), e5] := by
        show forLoop _ (.int (i : Nat) :: _) _ = _
        simp only [forLoop, one]
      rw [fl]
      exact ih
end
end DE.K05

namespace DE.K05
open PySem PySem.Spec PyProof.Rows L2 DE.Lib
section
variable {m : Nat}
abbrev pD (p : Str × D) : D := .tuple [.str p.1, p.2]
theorem sit_kv (a : A) : sitD (.dict (kv a)) = some (.own (.list ((asc a).map pD))) := by
  show (strKs (kv a)).map _ = _
  rw [ks_kv]
  simp only [Option.map_some]
  congr 3
  unfold asc
  rw [List.map_map]
  refine List.map_congr_left fun x _ => ?_
  show PyData.tuple [.str x, (getKV (kv a) (.inr x)).getD .none] = _
  rw [get_kv]; rfl
theorem sky_kv (a : A) : skyD (.dict (kv a)) = some (.own (.list ((srtS (a.map (·.1))).map .str))) := by
  show (strKs (kv a)).map _ = _
  rw [ks_kv]; rfl
theorem bd_asc (a : A) : bd (asc a) = .tuple ((asc a).map pD) := rfl
theorem asc_map (a : A) : (srtS (a.map (·.1))).map (fun x => PyData.tuple [.str x, (get a x).getD .none]) = (asc a).map pD := by
  unfold asc
  rw [List.map_map]; rfl
theorem ofP_len (ps : A) : (ofP ps).length ≤ ps.length := by
  have : ∀ (ps a : A), (ps.foldl (fun a p => put a p.1 p.2) a).length ≤ a.length + ps.length := by
    intro ps
    induction ps with
    | nil => intro a; exact Nat.le_refl _
    | cons p r ih =>
      intro a
      have z := ih (put a p.1 p.2)
      have y := put_len a p.1 p.2
      show (r.foldl _ (put a p.1 p.2)).length ≤ _
      rw [List.length_cons]
      omega
  have z := this ps []
  simpa [ofP] using z
theorem fv_ofP {b : A} (nd : Nd b) (h : Fv b) : Fv (ofP b) := fun x w hw => h x w (by rwa [get_ofP nd] at hw)
def mres (ts vs : List D) (b : A) : D := if ts.length = vs.length then match mrun (ofP b) (ts.zip vs) with
    | none => .none
    | some a => bd (asc a)
  else .none
theorem zs_of {ts vs : List D} (ht : ∀ t ∈ ts, Tm t) (hv : ∀ v ∈ vs, Fl1 v) : ∀ z ∈ ts.zip vs, Tm z.1 ∧ Fl1 z.2 := fun z hz => by
  obtain ⟨t, v⟩ := z
  exact ⟨ht t (List.of_mem_zip hz).1, hv v (List.of_mem_zip hz).2⟩
theorem blt_bd (b : A) : bltD .dict [bd b] = some (.own (.dict (kv (ofP b)))) := by
  show (pairsOf (b.map pD)).map _ = _
  rw [pairs_bd]
  show some (Rv.own (.dict (mergeKV [] (b.map fun p => (.inr p.1, p.2))))) = _
  rw [merge_kv]
theorem eqInt (n k : Nat) : PyData.eqv (.int n) (.int k) = decide (n = k) := by
  by_cases h : n = k
  · subst h; simp [PyData.eqv]
  · have : ¬ ((n : Int) = k) := by omega
    simp [PyData.eqv, h, this]
theorem bi (n : Int) : eqOk (.int n) = true := rfl
theorem matched_ok (k : Nat) (ts vs : List D) (b : A) (ht : ∀ t ∈ ts, Tm t) (hv : ∀ v ∈ vs, Fl1 v) (nd : Nd b) (hb : Fv b) (hl : ts.length ≤ 100) (lb : b.length ≤ 100) :
    CD m (k + 3) "matched" [.pure (.tuple ts), .pure (.tuple vs), .pure (bd b)] = .ret (.pure (mres ts vs b)) [.pure (.tuple ts), .pure (.tuple vs), .pure (bd b)] := by
  have dk := blt_bd b
  unfold mres
  rw [cd_matched]
  by_cases hn : ts.length = vs.length
  · rw [if_pos hn]
    have lo := ofP_len b
    have ml := m_loop (m := m) k (.pure (.tuple ts)) (.pure (.tuple vs)) (.pure (bd b)) (ts.zip vs) (ofP b) .emp .emp (zs_of ht hv) (fv_ofP nd hb) (by rw [List.length_zip]; omega) (fun _ h => by cases h) (fun _ h => by cases h)
    have zd : zipD ts vs = (ts.zip vs).map pr := rfl
    rw [← zd] at ml
    cases hr : mrun (ofP b) (ts.zip vs) with
    | none =>
      rw [hr] at ml
      obtain ⟨δ, e1, d, d4, d5, rfl⟩ := ml
      have hloop : execS (CD m (k + 2)) (glOf cs) m l2_matched [.pure (.tuple ts), .pure (.tuple vs), .pure (bd b), .own (.dict (kv (ofP b))), .emp, .emp] = .ok (.rt (.pure .none)) [.pure (.tuple ts), .pure (.tuple vs), .pure (bd b), d, d4, d5] := by
        unfold l2_matched
        simp [runBody, execSs, execS, evalE, evalT, evalEs, evalRs, evalAs, evalI, evalO, evalC, bind_ok, bind_ex, bind_no, settle, rd, Cell.rd, bltD, lenD, ofO, tk, asgC, two, rdTo, cmpD, ordD, binD, truthD, esc, retV, outsOf, setC, hasV, setD, Cell.isOwn, backTo1, idxD, callA, arCells, arCell, refsOf, putBack, size2]
        exact e1
      simp [d_matched, b_matched, runBody, execSs, execS, evalE, evalT, evalEs, evalRs, evalAs, evalI, evalO, evalC, bind_ok, bind_ex, bind_no, settle, rd, Cell.rd, bltD, lenD, ofO, tk, asgC, two, rdTo, cmpD, ordD, binD, truthD, esc, retV, outsOf, setC, hasV, setD, Cell.isOwn, backTo1, idxD, callA, arCells, arCell, refsOf, putBack, size2, eqD, bi, eqInt, hn, pairs_bd, merge_kv, hloop]
    | some a =>
      rw [hr] at ml
      obtain ⟨c4, c5, e1⟩ := ml
      have hloop : execS (CD m (k + 2)) (glOf cs) m l2_matched [.pure (.tuple ts), .pure (.tuple vs), .pure (bd b), .own (.dict (kv (ofP b))), .emp, .emp] = .ok .nx [.pure (.tuple ts), .pure (.tuple vs), .pure (bd b), .own (.dict (kv a)), c4, c5] := by
        unfold l2_matched
        simp [runBody, execSs, execS, evalE, evalT, evalEs, evalRs, evalAs, evalI, evalO, evalC, bind_ok, bind_ex, bind_no, settle, rd, Cell.rd, bltD, lenD, ofO, tk, asgC, two, rdTo, cmpD, ordD, binD, truthD, esc, retV, outsOf, setC, hasV, setD, Cell.isOwn, backTo1, idxD, callA, arCells, arCell, refsOf, putBack, size2]
        exact e1
      have st := sit_kv a
      simp [d_matched, b_matched, runBody, execSs, execS, evalE, evalT, evalEs, evalRs, evalAs, evalI, evalO, evalC, bind_ok, bind_ex, bind_no, settle, rd, Cell.rd, bltD, lenD, ofO, tk, asgC, two, rdTo, cmpD, ordD, binD, truthD, esc, retV, outsOf, setC, hasV, setD, Cell.isOwn, backTo1, idxD, callA, arCells, arCell, refsOf, putBack, size2, eqD, bi, eqInt, hn, pairs_bd, merge_kv, hloop, st, bd_asc]
  · rw [if_neg hn]
    simp [d_matched, b_matched, runBody, execSs, execS, evalE, evalT, evalEs, evalRs, evalAs, evalI, evalO, evalC, bind_ok, bind_ex, bind_no, settle, rd, Cell.rd, bltD, lenD, ofO, tk, asgC, two, rdTo, cmpD, ordD, binD, truthD, esc, retV, outsOf, setC, hasV, setD, Cell.isOwn, backTo1, idxD, callA, arCells, arCell, refsOf, putBack, size2, eqD, bi, eqInt, hn]
theorem rng_eq (n : Nat) : rngD 0 n = (List.range' 0 n).map fun j => .int (j : Nat) := by
  unfold rngD
  rw [← List.range_eq_range']
  simp
theorem due_ok (k : Nat) (ts vs : List D) (b : A) (ht : ∀ t ∈ ts, Tm t) (hv : ∀ v ∈ vs, Fl1 v) (nd : Nd b) (hb : Fv b) (hl : ts.length ≤ 100) (lb : b.length ≤ 100) :
    CD m (k + 1) "_law_due" [.pure (.tuple ts), .pure (.tuple vs), .pure (bd b)] = .ret (.pure (mres ts vs b)) [.pure (.tuple ts), .pure (.tuple vs), .pure (bd b)] := by
  have dk := blt_bd b
  unfold mres
  rw [cd__law_due]
  by_cases hn : ts.length = vs.length
  · rw [if_pos hn]
    have lo := ofP_len b
    have lz : (ts.zip vs).length = ts.length := by rw [List.length_zip]; omega
    have hok : rngOk (ts.length : Int) = true := rngOk_in (by omega) (by omega)
    have ml := d_loop (m := m) k ts vs (.pure (bd b)) .emp (ts.zip vs) 0 (ofP b) .emp (fun j p hp => by
      rw [Nat.zero_add]
      exact List.getElem?_zip_eq_some.mp hp) (zs_of ht hv) (fv_ofP nd hb) (ofP_nodup b) (by omega) (fun _ h => by cases h)
    rw [lz, ← rng_eq] at ml
    cases hr : mrun (ofP b) (ts.zip vs) with
    | none =>
      rw [hr] at ml
      obtain ⟨δ, e1, d, d4, rfl⟩ := ml
      have hloop : execS (CD m k) (glOf cs) m l2__law_due [.pure (.tuple ts), .pure (.tuple vs), .pure (bd b), .own (.dict (kv (ofP b))), .emp, .emp] = .ok (.rt (.pure .none)) [.pure (.tuple ts), .pure (.tuple vs), .pure (bd b), d, d4, .emp] := by
        unfold l2__law_due
        simp [runBody, execSs, execS, evalE, evalT, evalEs, evalRs, evalAs, evalI, evalO, evalC, bind_ok, bind_ex, bind_no, settle, rd, Cell.rd, bltD, lenD, ofO, tk, asgC, two, rdTo, cmpD, ordD, binD, truthD, esc, retV, outsOf, setC, hasV, setD, Cell.isOwn, backTo1, idxD, callA, arCells, arCell, refsOf, putBack, size2, hok]
        exact e1
      simp [d__law_due, b__law_due, runBody, execSs, execS, evalE, evalT, evalEs, evalRs, evalAs, evalI, evalO, evalC, bind_ok, bind_ex, bind_no, settle, rd, Cell.rd, bltD, lenD, ofO, tk, asgC, two, rdTo, cmpD, ordD, binD, truthD, esc, retV, outsOf, setC, hasV, setD, Cell.isOwn, backTo1, idxD, callA, arCells, arCell, refsOf, putBack, size2, eqD, bi, eqInt, hn, pairs_bd, merge_kv, hloop]
    | some a =>
      rw [hr] at ml
      obtain ⟨c4, e1⟩ := ml
      have hloop : execS (CD m k) (glOf cs) m l2__law_due [.pure (.tuple ts), .pure (.tuple vs), .pure (bd b), .own (.dict (kv (ofP b))), .emp, .emp] = .ok .nx [.pure (.tuple ts), .pure (.tuple vs), .pure (bd b), .own (.dict (kv a)), c4, .emp] := by
        unfold l2__law_due
        simp [runBody, execSs, execS, evalE, evalT, evalEs, evalRs, evalAs, evalI, evalO, evalC, bind_ok, bind_ex, bind_no, settle, rd, Cell.rd, bltD, lenD, ofO, tk, asgC, two, rdTo, cmpD, ordD, binD, truthD, esc, retV, outsOf, setC, hasV, setD, Cell.isOwn, backTo1, idxD, callA, arCells, arCell, refsOf, putBack, size2, hok]
        exact e1
      have sk := sky_kv a
      have z2 : 2 ≤ sizeLine := by decide
      have la : a.length ≤ 1000 := by
        have : ∀ (zs : List (D × D)) (a a' : A), mrun a zs = some a' -> a'.length ≤ a.length + zs.length := by
          intro zs
          induction zs with
          | nil => intro a a' e; cases e; exact Nat.le_refl _
          | cons p r ih =>
            intro a a' e
            unfold mrun at e
            cases hs : mstep a p.1 p.2 with
            | none => rw [hs] at e; cases e
            | some c =>
              rw [hs] at e
              have y := ih c a' e
              have w := step_len hs
              rw [List.length_cons]
              omega
        have z := this _ _ _ hr
        omega
      have hcomp : evalE (CD m k) (glOf cs) c3__law_due [.pure (.tuple ts), .pure (.tuple vs), .pure (bd b), .own (.dict (kv a)), c4, .emp] = .ok (.own (.list ((srtS (a.map (·.1))).map fun x => PyData.tuple [.str x, (get a x).getD .none]))) [.pure (.tuple ts), .pure (.tuple vs), .pure (bd b), .own (.dict (kv a)), c4, .emp] := by
        refine lc_eval (elt := .tup (.cons (.slot 5) (.cons (.idx (.slot 3) (.slot 5)) .nil))) (tg := .nm 5) (it := .val (.sky (.slot 3))) (cond := .non) (own := [5]) (xs := srtS (a.map (·.1))) (g := PyData.str) (f := fun x => PyData.tuple [.str x, (get a x).getD .none]) (δ1 := [.pure (.tuple ts), .pure (.tuple vs), .pure (bd b), .own (.dict (kv a)), c4, .emp]) ?_ (by rfl) (fun x hx => ?_) (by have := sl; have z := (srtS_perm (a.map (·.1))).length_eq; rw [List.length_map] at z; omega) (by rfl)
        · simp [runBody, execSs, execS, evalE, evalT, evalEs, evalRs, evalAs, evalI, evalO, evalC, bind_ok, bind_ex, bind_no, settle, rd, Cell.rd, bltD, lenD, ofO, tk, asgC, two, rdTo, cmpD, ordD, binD, truthD, esc, retV, outsOf, setC, hasV, setD, Cell.isOwn, backTo1, idxD, callA, arCells, arCell, refsOf, putBack, size2, sk, itemsD]
        · have hx : x ∈ a.map (·.1) := (srtS_perm _).mem_iff.mp hx
          obtain ⟨w, hw⟩ := Option.isSome_iff_exists.mp (mem_keys.mp hx)
          have gx := get_kv a x
          rw [hw] at gx
          simp [runBody, execSs, execS, evalE, evalT, evalEs, evalRs, evalAs, evalI, evalO, evalC, bind_ok, bind_ex, bind_no, settle, rd, Cell.rd, bltD, lenD, ofO, tk, asgC, two, rdTo, cmpD, ordD, binD, truthD, esc, retV, outsOf, setC, hasV, setD, Cell.isOwn, backTo1, idxD, callA, arCells, arCell, refsOf, putBack, size2, asgD, wipeE, z2, keyD, gx, hw]
      rw [asc_map] at hcomp
      simp [d__law_due, b__law_due, runBody, execSs, execS, evalE, evalT, evalEs, evalRs, evalAs, evalI, evalO, evalC, bind_ok, bind_ex, bind_no, settle, rd, Cell.rd, bltD, lenD, ofO, tk, asgC, two, rdTo, cmpD, ordD, binD, truthD, esc, retV, outsOf, setC, hasV, setD, Cell.isOwn, backTo1, idxD, callA, arCells, arCell, refsOf, putBack, size2, eqD, bi, eqInt, hn, pairs_bd, merge_kv, hloop, hcomp, bd_asc]
  · rw [if_neg hn]
    simp [d__law_due, b__law_due, runBody, execSs, execS, evalE, evalT, evalEs, evalRs, evalAs, evalI, evalO, evalC, bind_ok, bind_ex, bind_no, settle, rd, Cell.rd, bltD, lenD, ofO, tk, asgC, two, rdTo, cmpD, ordD, binD, truthD, esc, retV, outsOf, setC, hasV, setD, Cell.isOwn, backTo1, idxD, callA, arCells, arCell, refsOf, putBack, size2, eqD, bi, eqInt, hn]
/-! ### putting in -/
def sub (a : A) (t : D) : D := match t with
  | .str x => (get a x).getD t
  | t => t
theorem sub_eq (a : A) (t : D) (h : Fl1 t) : (keyD t).map (fun k => (Rv.pure ((getKV (kv a) k).getD t), (none : Option D))) = some (.pure (sub a t), none) := by
  cases h with
  | int n =>
    show some (Rv.pure ((getKV (kv a) (.inl n)).getD (.int n)), (none : Option D)) = _
    rw [get_int]; rfl
  | str z =>
    show some (Rv.pure ((getKV (kv a) (.inr z)).getD (.str z)), (none : Option D)) = _
    rw [get_kv]; rfl
theorem put_ok (k : Nat) (ts : List D) (b : A) (ht : ∀ t ∈ ts, Fl1 t) (hl : ts.length ≤ 1000) :
    CD m (k + 1) "put_in" [.pure (.tuple ts), .pure (bd b)] = .ret (.pure (.tuple (ts.map (sub (ofP b))))) [.pure (.tuple ts), .pure (bd b)] := by
  have dk := blt_bd b
  have hcomp : evalE (CD m k) (glOf cs) c1_put_in [.pure (.tuple ts), .pure (bd b), .own (.dict (kv (ofP b))), .emp] = .ok (.own (.list (ts.map (sub (ofP b))))) [.pure (.tuple ts), .pure (bd b), .own (.dict (kv (ofP b))), .emp] := by
    have z := lc_eval (Γ := CD m k) (gl := glOf cs) (elt := .mth .get (.slot 2) (.cons (.slot 3) (.cons (.slot 3) .nil))) (tg := .nm 3) (it := .val (.slot 0)) (cond := .non) (own := [3]) (δ := [.pure (.tuple ts), .pure (bd b), .own (.dict (kv (ofP b))), .emp]) (δ1 := [.pure (.tuple ts), .pure (bd b), .own (.dict (kv (ofP b))), .emp]) (δ2 := [.pure (.tuple ts), .pure (bd b), .own (.dict (kv (ofP b))), .emp]) (xs := ts) (g := id) (f := sub (ofP b)) ?_ (by rfl) (fun t hx => ?_) (by have := sl; omega) (by rfl)
    · exact z
    · simp [runBody, execSs, execS, evalE, evalT, evalEs, evalRs, evalAs, evalI, evalO, evalC, bind_ok, bind_ex, bind_no, settle, rd, Cell.rd, bltD, lenD, ofO, tk, asgC, two, rdTo, cmpD, ordD, binD, truthD, esc, retV, outsOf, setC, hasV, setD, Cell.isOwn, backTo1, idxD, callA, arCells, arCell, refsOf, putBack, size2, itemsD]
    · have e := sub_eq (ofP b) t (ht t hx)
      simp [runBody, execSs, execS, evalE, evalT, evalEs, evalRs, evalAs, evalI, evalO, evalC, bind_ok, bind_ex, bind_no, settle, rd, Cell.rd, bltD, lenD, ofO, tk, asgC, two, rdTo, cmpD, ordD, binD, truthD, esc, retV, outsOf, setC, hasV, setD, Cell.isOwn, backTo1, idxD, callA, arCells, arCell, refsOf, putBack, size2, asgD, wipeE, okTy, mthA, mthD, e]
  rw [cd_put_in]
  simp [d_put_in, b_put_in, runBody, execSs, execS, evalE, evalT, evalEs, evalRs, evalAs, evalI, evalO, evalC, bind_ok, bind_ex, bind_no, settle, rd, Cell.rd, bltD, lenD, ofO, tk, asgC, two, rdTo, cmpD, ordD, binD, truthD, esc, retV, outsOf, setC, hasV, setD, Cell.isOwn, backTo1, idxD, callA, arCells, arCell, refsOf, putBack, size2, pairs_bd, merge_kv, hcomp]
theorem lput_ok (k : Nat) (ts : List D) (b : A) (ht : ∀ t ∈ ts, Fl1 t) (hl : ts.length ≤ 1000) :
    CD m (k + 1) "_law_put" [.pure (.tuple ts), .pure (bd b)] = .ret (.pure (.tuple (ts.map (sub (ofP b))))) [.pure (.tuple ts), .pure (bd b)] := by
  have dk := blt_bd b
  have hcomp : evalE (CD m k) (glOf cs) c1__law_put [.pure (.tuple ts), .pure (bd b), .own (.dict (kv (ofP b))), .emp] = .ok (.own (.list (ts.map (sub (ofP b))))) [.pure (.tuple ts), .pure (bd b), .own (.dict (kv (ofP b))), .emp] := by
    have z := lc_eval (Γ := CD m k) (gl := glOf cs) (elt := .mth .get (.slot 2) (.cons (.slot 3) (.cons (.slot 3) .nil))) (tg := .nm 3) (it := .val (.slot 0)) (cond := .non) (own := [3]) (δ := [.pure (.tuple ts), .pure (bd b), .own (.dict (kv (ofP b))), .emp]) (δ1 := [.pure (.tuple ts), .pure (bd b), .own (.dict (kv (ofP b))), .emp]) (δ2 := [.pure (.tuple ts), .pure (bd b), .own (.dict (kv (ofP b))), .emp]) (xs := ts) (g := id) (f := sub (ofP b)) ?_ (by rfl) (fun t hx => ?_) (by have := sl; omega) (by rfl)
    · exact z
    · simp [runBody, execSs, execS, evalE, evalT, evalEs, evalRs, evalAs, evalI, evalO, evalC, bind_ok, bind_ex, bind_no, settle, rd, Cell.rd, bltD, lenD, ofO, tk, asgC, two, rdTo, cmpD, ordD, binD, truthD, esc, retV, outsOf, setC, hasV, setD, Cell.isOwn, backTo1, idxD, callA, arCells, arCell, refsOf, putBack, size2, itemsD]
    · have e := sub_eq (ofP b) t (ht t hx)
      simp [runBody, execSs, execS, evalE, evalT, evalEs, evalRs, evalAs, evalI, evalO, evalC, bind_ok, bind_ex, bind_no, settle, rd, Cell.rd, bltD, lenD, ofO, tk, asgC, two, rdTo, cmpD, ordD, binD, truthD, esc, retV, outsOf, setC, hasV, setD, Cell.isOwn, backTo1, idxD, callA, arCells, arCell, refsOf, putBack, size2, asgD, wipeE, okTy, mthA, mthD, e]
  rw [cd__law_put]
  simp [d__law_put, b__law_put, runBody, execSs, execS, evalE, evalT, evalEs, evalRs, evalAs, evalI, evalO, evalC, bind_ok, bind_ex, bind_no, settle, rd, Cell.rd, bltD, lenD, ofO, tk, asgC, two, rdTo, cmpD, ordD, binD, truthD, esc, retV, outsOf, setC, hasV, setD, Cell.isOwn, backTo1, idxD, callA, arCells, arCell, refsOf, putBack, size2, pairs_bd, merge_kv, hcomp]
end
end DE.K05

namespace DE.K05
open PySem PySem.Spec PyProof.Rows L2 DE.Lib
section
variable {m : Nat}
/-! ### two bindings as one -/
def jn : A -> A -> Option A
  | a, [] => some a
  | a, p :: r => match get a p.1 with
    | none => jn (put a p.1 p.2) r
    | some w => if PyData.eqv w p.2 = true then jn (put a p.1 p.2) r else none
def jres (b o : A) : D := match jn (ofP b) o with
  | none => .none
  | some a => bd (asc a)
theorem j_loop (k : Nat) (f : CSs) (hf : f = w1_joined ∨ f = w1__law_both) (B O : Cell) : ∀ (r : A) (a : A) (c3 c4 : Cell), Fv a -> (∀ p ∈ r, Fl1 p.2) -> a.length + r.length ≤ 1000 -> c3.isOwn = false -> c4.isOwn = false ->
    match jn a r with
    | none => ∃ δ, forLoop (forBody (.tp [.nm 3, .nm 4]) (execSs (CD m k) (glOf cs) m f)) (r.map pD) [B, O, .own (.dict (kv a)), c3, c4] = .ok (.rt (.pure .none)) δ ∧ ∃ d d3 d4, δ = [B, O, d, d3, d4]
    | some a' => ∃ c3' c4', forLoop (forBody (.tp [.nm 3, .nm 4]) (execSs (CD m k) (glOf cs) m f)) (r.map pD) [B, O, .own (.dict (kv a)), c3, c4] = .ok .nx [B, O, .own (.dict (kv a')), c3', c4'] ∧ c3'.isOwn = false
  | [], a, c3, c4, _, _, _, n3, _ => ⟨c3, c4, rfl, n3⟩
  | (x, v) :: r, a, c3, c4, hg, hr, hl, n3, n4 => by
    rw [List.length_cons] at hl
    have hv : Fl1 v := hr _ (List.mem_cons_self ..)
    have ev := eqOk_fl hv
    have zl : a.length < sizeLine := by have := sl; omega
    have gx := get_kv a x
    have pk := put_kv a x v
    have a4 : asgD (.tp [.nm 3, .nm 4]) (pD (x, v)) [B, O, .own (.dict (kv a)), c3, c4] = some [B, O, .own (.dict (kv a)), .pure (.str x), .pure v] := by
      cases c3 with
      | inp d => cases n3
      | _ => cases c4 with
        | inp d => cases n4
        | _ => simp [asgD, asgDs]
    have goOn : forBody (.tp [.nm 3, .nm 4]) (execSs (CD m k) (glOf cs) m f) (pD (x, v)) [B, O, .own (.dict (kv a)), c3, c4] = .ok .nx [B, O, .own (.dict (kv (put a x v))), .pure (.str x), .pure v] ->
        match jn (put a x v) r with
        | none => ∃ δ, forLoop (forBody (.tp [.nm 3, .nm 4]) (execSs (CD m k) (glOf cs) m f)) (((x, v) :: r).map pD) [B, O, .own (.dict (kv a)), c3, c4] = .ok (.rt (.pure .none)) δ ∧ ∃ d d3 d4, δ = [B, O, d, d3, d4]
        | some a' => ∃ c3' c4', forLoop (forBody (.tp [.nm 3, .nm 4]) (execSs (CD m k) (glOf cs) m f)) (((x, v) :: r).map pD) [B, O, .own (.dict (kv a)), c3, c4] = .ok .nx [B, O, .own (.dict (kv a')), c3', c4'] ∧ c3'.isOwn = false := fun e => by
      have pl := put_len a x v
      have ih := j_loop k f hf B O r (put a x v) (.pure (.str x)) (.pure v) (fv_put hg hv) (fun p hp => hr p (List.mem_cons_of_mem _ hp)) (by omega) rfl rfl
      have fl : forLoop (forBody (.tp [.nm 3, .nm 4]) (execSs (CD m k) (glOf cs) m f)) (((x, v) :: r).map pD) [B, O, .own (.dict (kv a)), c3, c4] = forLoop (forBody (.tp [.nm 3, .nm 4]) (execSs (CD m k) (glOf cs) m f)) (r.map pD) [B, O, .own (.dict (kv (put a x v))), .pure (.str x), .pure v] := by
        show forLoop _ (pD (x, v) :: r.map pD) _ = _
        simp only [forLoop, e]
      rw [fl]
      exact ih
    show match (match get a x with
      | none => jn (put a x v) r
      | some w => if PyData.eqv w v = true then jn (put a x v) r else none) with
      | none => _
      | some a' => _
    cases hgx : get a x with
    | none =>
      rw [hgx] at gx
      refine goOn ?_
      unfold forBody
      rw [a4]
      rcases hf with rfl | rfl
      · simp [w1_joined, runBody, execSs, execS, evalE, evalT, evalEs, evalRs, evalAs, evalI, evalO, evalC, bind_ok, bind_ex, bind_no, settle, rd, Cell.rd, bltD, lenD, ofO, tk, asgC, two, rdTo, cmpD, ordD, binD, truthD, esc, retV, outsOf, setC, hasV, setD, Cell.isOwn, backTo1, idxD, callA, arCells, arCell, refsOf, putBack, size2, inD, keyD, gx, kv_len, zl, pk]
      · simp [w1__law_both, runBody, execSs, execS, evalE, evalT, evalEs, evalRs, evalAs, evalI, evalO, evalC, bind_ok, bind_ex, bind_no, settle, rd, Cell.rd, bltD, lenD, ofO, tk, asgC, two, rdTo, cmpD, ordD, binD, truthD, esc, retV, outsOf, setC, hasV, setD, Cell.isOwn, backTo1, idxD, callA, arCells, arCell, refsOf, putBack, size2, inD, keyD, gx, kv_len, zl, pk]
    | some w =>
      rw [hgx] at gx
      have ew := eqOk_fl (hg x w hgx)
      cases he : PyData.eqv w v
      · show match (if PyData.eqv w v = true then jn (put a x v) r else none : Option A) with
          | none => _
          | some a' => _
        rw [if_neg (by rw [he]; exact Bool.false_ne_true)]
        refine ⟨[B, O, .own (.dict (kv a)), .pure (.str x), .pure v], ?_, _, _, _, rfl⟩
        have one : forBody (.tp [.nm 3, .nm 4]) (execSs (CD m k) (glOf cs) m f) (pD (x, v)) [B, O, .own (.dict (kv a)), c3, c4] = .ok (.rt (.pure .none)) [B, O, .own (.dict (kv a)), .pure (.str x), .pure v] := by
          unfold forBody
          rw [a4]
          rcases hf with rfl | rfl
          · simp [w1_joined, runBody, execSs, execS, evalE, evalT, evalEs, evalRs, evalAs, evalI, evalO, evalC, bind_ok, bind_ex, bind_no, settle, rd, Cell.rd, bltD, lenD, ofO, tk, asgC, two, rdTo, cmpD, ordD, binD, truthD, esc, retV, outsOf, setC, hasV, setD, Cell.isOwn, backTo1, idxD, callA, arCells, arCell, refsOf, putBack, size2, inD, keyD, gx, eqD, ew, ev, he]
          · simp [w1__law_both, runBody, execSs, execS, evalE, evalT, evalEs, evalRs, evalAs, evalI, evalO, evalC, bind_ok, bind_ex, bind_no, settle, rd, Cell.rd, bltD, lenD, ofO, tk, asgC, two, rdTo, cmpD, ordD, binD, truthD, esc, retV, outsOf, setC, hasV, setD, Cell.isOwn, backTo1, idxD, callA, arCells, arCell, refsOf, putBack, size2, inD, keyD, gx, eqD, ew, ev, he]
        show forLoop _ (pD (x, v) :: r.map pD) _ = _
        simp only [forLoop, one]
      · show match (if PyData.eqv w v = true then jn (put a x v) r else none : Option A) with
          | none => _
          | some a' => _
        rw [if_pos he]
        refine goOn ?_
        unfold forBody
        rw [a4]
        rcases hf with rfl | rfl
        · simp [w1_joined, runBody, execSs, execS, evalE, evalT, evalEs, evalRs, evalAs, evalI, evalO, evalC, bind_ok, bind_ex, bind_no, settle, rd, Cell.rd, bltD, lenD, ofO, tk, asgC, two, rdTo, cmpD, ordD, binD, truthD, esc, retV, outsOf, setC, hasV, setD, Cell.isOwn, backTo1, idxD, callA, arCells, arCell, refsOf, putBack, size2, inD, keyD, gx, eqD, ew, ev, he, kv_len, zl, pk]
        · simp [w1__law_both, runBody, execSs, execS, evalE, evalT, evalEs, evalRs, evalAs, evalI, evalO, evalC, bind_ok, bind_ex, bind_no, settle, rd, Cell.rd, bltD, lenD, ofO, tk, asgC, two, rdTo, cmpD, ordD, binD, truthD, esc, retV, outsOf, setC, hasV, setD, Cell.isOwn, backTo1, idxD, callA, arCells, arCell, refsOf, putBack, size2, inD, keyD, gx, eqD, ew, ev, he, kv_len, zl, pk]
theorem fl_mem {o : A} (nd : Nd o) (h : Fv o) : ∀ p ∈ o, Fl1 p.2 := fun p hp => h p.1 p.2 ((mem_get nd).mp hp)
theorem joined_ok (k : Nat) (b o : A) (nb : Nd b) (hb : Fv b) (no : Nd o) (ho : Fv o) (lb : b.length ≤ 100) (lo : o.length ≤ 100) :
    CD m (k + 1) "joined" [.pure (bd b), .pure (bd o)] = .ret (.pure (jres b o)) [.pure (bd b), .pure (bd o)] := by
  have ll := ofP_len b
  have ml := j_loop (m := m) k w1_joined (.inl rfl) (.pure (bd b)) (.pure (bd o)) o (ofP b) .emp .emp (fv_ofP nb hb) (fl_mem no ho) (by omega) rfl rfl
  unfold jres
  rw [cd_joined]
  cases hr : jn (ofP b) o with
  | none =>
    rw [hr] at ml
    obtain ⟨δ, e1, d, d3, d4, rfl⟩ := ml
    have hloop : execS (CD m k) (glOf cs) m l2_joined [.pure (bd b), .pure (bd o), .own (.dict (kv (ofP b))), .emp, .emp] = .ok (.rt (.pure .none)) [.pure (bd b), .pure (bd o), d, d3, d4] := by
      unfold l2_joined
      simp [runBody, execSs, execS, evalE, evalT, evalEs, evalRs, evalAs, evalI, evalO, evalC, bind_ok, bind_ex, bind_no, settle, rd, Cell.rd, bltD, lenD, ofO, tk, asgC, two, rdTo, cmpD, ordD, binD, truthD, esc, retV, outsOf, setC, hasV, setD, Cell.isOwn, backTo1, idxD, callA, arCells, arCell, refsOf, putBack, size2, itemsD]
      exact e1
    simp [d_joined, b_joined, runBody, execSs, execS, evalE, evalT, evalEs, evalRs, evalAs, evalI, evalO, evalC, bind_ok, bind_ex, bind_no, settle, rd, Cell.rd, bltD, lenD, ofO, tk, asgC, two, rdTo, cmpD, ordD, binD, truthD, esc, retV, outsOf, setC, hasV, setD, Cell.isOwn, backTo1, idxD, callA, arCells, arCell, refsOf, putBack, size2, pairs_bd, merge_kv, hloop]
  | some a =>
    rw [hr] at ml
    obtain ⟨c3, c4, e1, n3⟩ := ml
    have hloop : execS (CD m k) (glOf cs) m l2_joined [.pure (bd b), .pure (bd o), .own (.dict (kv (ofP b))), .emp, .emp] = .ok .nx [.pure (bd b), .pure (bd o), .own (.dict (kv a)), c3, c4] := by
      unfold l2_joined
      simp [runBody, execSs, execS, evalE, evalT, evalEs, evalRs, evalAs, evalI, evalO, evalC, bind_ok, bind_ex, bind_no, settle, rd, Cell.rd, bltD, lenD, ofO, tk, asgC, two, rdTo, cmpD, ordD, binD, truthD, esc, retV, outsOf, setC, hasV, setD, Cell.isOwn, backTo1, idxD, callA, arCells, arCell, refsOf, putBack, size2, itemsD]
      exact e1
    have st := sit_kv a
    simp [d_joined, b_joined, runBody, execSs, execS, evalE, evalT, evalEs, evalRs, evalAs, evalI, evalO, evalC, bind_ok, bind_ex, bind_no, settle, rd, Cell.rd, bltD, lenD, ofO, tk, asgC, two, rdTo, cmpD, ordD, binD, truthD, esc, retV, outsOf, setC, hasV, setD, Cell.isOwn, backTo1, idxD, callA, arCells, arCell, refsOf, putBack, size2, pairs_bd, merge_kv, hloop, st]
theorem jn_len : ∀ (r a a' : A), jn a r = some a' -> a'.length ≤ a.length + r.length := by
  intro r
  induction r with
  | nil => intro a a' e; cases e; exact Nat.le_refl _
  | cons p r ih =>
    intro a a' e
    have pl := put_len a p.1 p.2
    have z : jn (put a p.1 p.2) r = some a' := by
      unfold jn at e
      split at e
      · exact e
      · split at e
        · exact e
        · cases e
    have y := ih _ _ z
    rw [List.length_cons]
    omega
theorem both_ok (k : Nat) (b o : A) (nb : Nd b) (hb : Fv b) (no : Nd o) (ho : Fv o) (lb : b.length ≤ 100) (lo : o.length ≤ 100) :
    CD m (k + 1) "_law_both" [.pure (bd b), .pure (bd o)] = .ret (.pure (jres b o)) [.pure (bd b), .pure (bd o)] := by
  have ll := ofP_len b
  have ml := j_loop (m := m) k w1__law_both (.inr rfl) (.pure (bd b)) (.pure (bd o)) o (ofP b) .emp .emp (fv_ofP nb hb) (fl_mem no ho) (by omega) rfl rfl
  unfold jres
  rw [cd__law_both]
  cases hr : jn (ofP b) o with
  | none =>
    rw [hr] at ml
    obtain ⟨δ, e1, d, d3, d4, rfl⟩ := ml
    have hloop : execS (CD m k) (glOf cs) m l2__law_both [.pure (bd b), .pure (bd o), .own (.dict (kv (ofP b))), .emp, .emp] = .ok (.rt (.pure .none)) [.pure (bd b), .pure (bd o), d, d3, d4] := by
      unfold l2__law_both
      simp [runBody, execSs, execS, evalE, evalT, evalEs, evalRs, evalAs, evalI, evalO, evalC, bind_ok, bind_ex, bind_no, settle, rd, Cell.rd, bltD, lenD, ofO, tk, asgC, two, rdTo, cmpD, ordD, binD, truthD, esc, retV, outsOf, setC, hasV, setD, Cell.isOwn, backTo1, idxD, callA, arCells, arCell, refsOf, putBack, size2, itemsD]
      exact e1
    simp [d__law_both, b__law_both, runBody, execSs, execS, evalE, evalT, evalEs, evalRs, evalAs, evalI, evalO, evalC, bind_ok, bind_ex, bind_no, settle, rd, Cell.rd, bltD, lenD, ofO, tk, asgC, two, rdTo, cmpD, ordD, binD, truthD, esc, retV, outsOf, setC, hasV, setD, Cell.isOwn, backTo1, idxD, callA, arCells, arCell, refsOf, putBack, size2, pairs_bd, merge_kv, hloop]
  | some a =>
    rw [hr] at ml
    obtain ⟨c3, c4, e1, n3⟩ := ml
    have hloop : execS (CD m k) (glOf cs) m l2__law_both [.pure (bd b), .pure (bd o), .own (.dict (kv (ofP b))), .emp, .emp] = .ok .nx [.pure (bd b), .pure (bd o), .own (.dict (kv a)), c3, c4] := by
      unfold l2__law_both
      simp [runBody, execSs, execS, evalE, evalT, evalEs, evalRs, evalAs, evalI, evalO, evalC, bind_ok, bind_ex, bind_no, settle, rd, Cell.rd, bltD, lenD, ofO, tk, asgC, two, rdTo, cmpD, ordD, binD, truthD, esc, retV, outsOf, setC, hasV, setD, Cell.isOwn, backTo1, idxD, callA, arCells, arCell, refsOf, putBack, size2, itemsD]
      exact e1
    have sk := sky_kv a
    have z2 : 2 ≤ sizeLine := by decide
    have la := jn_len _ _ _ hr
    have hcomp : evalE (CD m k) (glOf cs) c3__law_both [.pure (bd b), .pure (bd o), .own (.dict (kv a)), c3, c4] = .ok (.own (.list ((srtS (a.map (·.1))).map fun x => PyData.tuple [.str x, (get a x).getD .none]))) [.pure (bd b), .pure (bd o), .own (.dict (kv a)), c3, c4] := by
      refine lc_eval (elt := .tup (.cons (.slot 3) (.cons (.idx (.slot 2) (.slot 3)) .nil))) (tg := .nm 3) (it := .val (.sky (.slot 2))) (cond := .non) (own := [3]) (xs := srtS (a.map (·.1))) (g := PyData.str) (f := fun x => PyData.tuple [.str x, (get a x).getD .none]) (δ1 := [.pure (bd b), .pure (bd o), .own (.dict (kv a)), c3, c4]) ?_ ?_ (fun x hx => ?_) (by have := sl; have z := (srtS_perm (a.map (·.1))).length_eq; rw [List.length_map] at z; omega) rfl
      · simp [runBody, execSs, execS, evalE, evalT, evalEs, evalRs, evalAs, evalI, evalO, evalC, bind_ok, bind_ex, bind_no, settle, rd, Cell.rd, bltD, lenD, ofO, tk, asgC, two, rdTo, cmpD, ordD, binD, truthD, esc, retV, outsOf, setC, hasV, setD, Cell.isOwn, backTo1, idxD, callA, arCells, arCell, refsOf, putBack, size2, sk, itemsD]
      · cases c3 <;> first | rfl | cases n3
      · have hx : x ∈ a.map (·.1) := (srtS_perm _).mem_iff.mp hx
        obtain ⟨w, hw⟩ := Option.isSome_iff_exists.mp (mem_keys.mp hx)
        have gx := get_kv a x
        rw [hw] at gx
        simp [runBody, execSs, execS, evalE, evalT, evalEs, evalRs, evalAs, evalI, evalO, evalC, bind_ok, bind_ex, bind_no, settle, rd, Cell.rd, bltD, lenD, ofO, tk, asgC, two, rdTo, cmpD, ordD, binD, truthD, esc, retV, outsOf, setC, hasV, setD, Cell.isOwn, backTo1, idxD, callA, arCells, arCell, refsOf, putBack, size2, asgD, wipeE, z2, keyD, gx, hw]
    rw [asc_map] at hcomp
    simp [d__law_both, b__law_both, runBody, execSs, execS, evalE, evalT, evalEs, evalRs, evalAs, evalI, evalO, evalC, bind_ok, bind_ex, bind_no, settle, rd, Cell.rd, bltD, lenD, ofO, tk, asgC, two, rdTo, cmpD, ordD, binD, truthD, esc, retV, outsOf, setC, hasV, setD, Cell.isOwn, backTo1, idxD, callA, arCells, arCell, refsOf, putBack, size2, pairs_bd, merge_kv, hloop, hcomp]
end
end DE.K05

namespace DE.K05
open PySem PySem.Spec PyProof.Rows L2 DE.Lib
section
variable {m : Nat}
/-! ### what matching keeps -/
theorem step_keep {a a' : A} {t v : D} (h : mstep a t v = some a') {x : Str} {w : D} (hx : get a x = some w) : get a' x = some w := by
  unfold mstep at h
  split at h
  · rename_i y
    split at h
    · split at h
      · rename_i hn
        cases h
        rw [get_put]
        by_cases e : x = y
        · subst e; rw [hx] at hn; cases hn
        · rw [if_neg e]; exact hx
      · split at h <;> cases h; exact hx
    · split at h <;> cases h; exact hx
  · split at h <;> cases h; exact hx
theorem run_keep : ∀ (zs : List (D × D)) {a a' : A}, mrun a zs = some a' -> ∀ {x : Str} {w : D}, get a x = some w -> get a' x = some w
  | [], a, a', h, x, w, hx => by cases h; exact hx
  | p :: r, a, a', h, x, w, hx => by
    unfold mrun at h
    cases hs : mstep a p.1 p.2 with
    | none => rw [hs] at h; cases h
    | some b => rw [hs] at h; exact run_keep r h (step_keep hs hx)
def Kv (a : A) : Prop := ∀ x w, get a x = some w -> x ∈ vars
theorem step_kv {a a' : A} {t v : D} (hk : Kv a) (h : mstep a t v = some a') : Kv a' := by
  unfold mstep at h
  split at h
  · rename_i y
    split at h
    · rename_i hy
      split at h
      · cases h
        intro x w hw
        rw [get_put] at hw
        split at hw
        · rename_i e; subst e; simpa using hy
        · exact hk x w hw
      · split at h <;> cases h; exact hk
    · split at h <;> cases h; exact hk
  · split at h <;> cases h; exact hk
/-- a term's value, as told -/
def told (a : A) (t v : D) : Prop := match t with
  | .str x => if x ∈ vars then get a x = some v else t = v
  | t => t = v
theorem step_told {a a' : A} {t v : D} (hf : Fv a) (ht : Tm t) (hv : Fl1 v) (h : mstep a t v = some a') : told a' t v := by
  unfold mstep at h
  cases ht with
  | int n =>
    simp only at h
    split at h
    · rename_i he; exact (eqv_fl (.int n) hv).mp he
    · cases h
  | str x hx =>
    simp only at h
    unfold told
    simp only
    split at h
    · rename_i hy
      rw [if_pos (by simpa using hy)]
      split at h
      · cases h; rw [get_put, if_pos rfl]
      · rename_i w hw
        split at h
        · rename_i he
          cases h
          rw [hw, (eqv_fl (hf x w hw) hv).mp he]
        · cases h
    · rename_i hy
      rw [if_neg (by simpa using hy)]
      split at h
      · rename_i he; exact (eqv_fl (.str x) hv).mp he
      · cases h
theorem told_keep {zs : List (D × D)} {a a' : A} {t v : D} (h : mrun a zs = some a') (ht : told a t v) : told a' t v := by
  cases t with
  | str x =>
    have ht : if x ∈ vars then get a x = some v else PyData.str x = v := ht
    show if x ∈ vars then get a' x = some v else PyData.str x = v
    by_cases hy : x ∈ vars
    · rw [if_pos hy] at ht ⊢; exact run_keep zs h ht
    · rw [if_neg hy] at ht ⊢; exact ht
  | _ => exact ht
theorem run_told : ∀ (zs : List (D × D)) {a a' : A}, Fv a -> (∀ z ∈ zs, Tm z.1 ∧ Fl1 z.2) -> mrun a zs = some a' -> ∀ z ∈ zs, told a' z.1 z.2
  | [], _, _, _, _, _, z, hz => by cases hz
  | p :: r, a, a', hf, hz, h, z, hm => by
    unfold mrun at h
    cases hs : mstep a p.1 p.2 with
    | none => rw [hs] at h; cases h
    | some b =>
      rw [hs] at h
      obtain ⟨q1, q2⟩ := hz p (List.mem_cons_self ..)
      rcases List.mem_cons.mp hm with rfl | hm
      · exact told_keep h (step_told hf q1 q2 hs)
      · exact run_told r (mstep_fv hf q2 hs) (fun z hz' => hz z (List.mem_cons_of_mem _ hz')) h z hm
theorem run_kv : ∀ (zs : List (D × D)) {a a' : A}, Kv a -> mrun a zs = some a' -> Kv a'
  | [], _, _, h, e => by cases e; exact h
  | p :: r, a, a', h, e => by
    unfold mrun at e
    cases hs : mstep a p.1 p.2 with
    | none => rw [hs] at e; cases e
    | some b => rw [hs] at e; exact run_kv r (step_kv h hs) e
theorem sub_told {a : A} {t v : D} (hk : Kv a) (h : told a t v) : sub a t = v := by
  cases t with
  | str x =>
    have h : if x ∈ vars then get a x = some v else PyData.str x = v := h
    show (get a x).getD (.str x) = v
    by_cases hy : x ∈ vars
    · rw [if_pos hy] at h; rw [h]; rfl
    · rw [if_neg hy] at h
      cases e : get a x with
      | none => exact h
      | some w => exact absurd (hk x w e) hy
  | _ => exact h
/-- put in again, the values come back -/
theorem put_back {ts vs : List D} {b a : A} (hn : ts.length = vs.length) (ht : ∀ t ∈ ts, Tm t) (hv : ∀ v ∈ vs, Fl1 v) (nd : Nd b) (hf : Fv b) (hk : Kv b) (h : mrun (ofP b) (ts.zip vs) = some a) : ts.map (sub (ofP (asc a))) = vs := by
  have na : Nd a := mrun_nd (ofP_nodup b) h
  have ka : Kv a := run_kv _ (fun x w hw => hk x w (by rwa [get_ofP nd] at hw)) h
  have tl := run_told _ (fv_ofP nd hf) (zs_of ht hv) h
  have gs : ∀ x, get (ofP (asc a)) x = get a x := fun x => by rw [get_ofP (asc_nodup na), get_asc]
  have se : ∀ t, sub (ofP (asc a)) t = sub a t := fun t => by
    cases t with
    | str x =>
      show (get (ofP (asc a)) x).getD (.str x) = (get a x).getD (.str x)
      rw [gs]
    | _ => rfl
  apply List.ext_getElem?
  intro i
  rw [List.getElem?_map]
  cases et : ts[i]? with
  | none =>
    have := List.getElem?_eq_none_iff.mp et
    rw [List.getElem?_eq_none (by omega)]; rfl
  | some t =>
    have hi : i < ts.length := (List.getElem?_eq_some_iff.mp et).1
    have ev : vs[i]? = some vs[i] := List.getElem?_eq_getElem (by omega)
    rw [ev]
    have hz : (ts.zip vs)[i]? = some (t, vs[i]) := List.getElem?_zip_eq_some.mpr ⟨et, ev⟩
    have z := tl _ (List.mem_of_getElem? hz)
    show some (sub (ofP (asc a)) t) = _
    rw [se, sub_told ka z]
theorem pairs_in {ts vs : List D} {b a : A} (nd : Nd b) (h : mrun (ofP b) (ts.zip vs) = some a) : ∀ p ∈ b, p ∈ asc a := by
  intro p hp
  have na : Nd a := mrun_nd (ofP_nodup b) h
  refine (mem_get (asc_nodup na)).mpr ?_
  rw [get_asc]
  refine run_keep _ h ?_
  rw [get_ofP nd]
  exact (mem_get nd).mp hp
/-! ### joining, from either side -/
theorem jn_some : ∀ (r a : A), Nd r -> (∀ p ∈ r, ∀ w, get a p.1 = some w -> w = p.2) -> (∀ p ∈ r, Fl1 p.2) -> jn a r = some (r.foldl (fun a p => put a p.1 p.2) a)
  | [], _, _, _, _ => rfl
  | p :: r, a, nd, h, hf => by
    have nd' : p.1 ∉ r.map (·.1) ∧ Nd r := List.nodup_cons.mp (show (p.1 :: r.map (·.1)).Nodup from nd)
    have ih := jn_some r (put a p.1 p.2) nd'.2 (fun q hq w hw => by
      rw [get_put, if_neg (fun e => nd'.1 (by rw [← e]; exact List.mem_map.mpr ⟨q, hq, rfl⟩))] at hw
      exact h q (List.mem_cons_of_mem _ hq) w hw) (fun q hq => hf q (List.mem_cons_of_mem _ hq))
    unfold jn
    cases hg : get a p.1 with
    | none => exact ih
    | some w =>
      have e := h p (List.mem_cons_self ..) w hg
      subst e
      simp only
      rw [if_pos (eqv_refl (hf p (List.mem_cons_self ..)))]
      exact ih
theorem jn_none : ∀ (r a : A), Nd r -> (∃ p ∈ r, ∃ w, get a p.1 = some w ∧ w ≠ p.2) -> (∀ p ∈ r, Fl1 p.2) -> Fv a -> jn a r = none
  | [], _, _, ⟨_, h, _⟩, _, _ => by cases h
  | p :: r, a, nd, ⟨q, hq, w, hw, hne⟩, hf, ha => by
    have nd' : p.1 ∉ r.map (·.1) ∧ Nd r := List.nodup_cons.mp (show (p.1 :: r.map (·.1)).Nodup from nd)
    have hp := hf p (List.mem_cons_self ..)
    have ih : q ∈ r -> jn (put a p.1 p.2) r = none := fun hqr => jn_none r (put a p.1 p.2) nd'.2 ⟨q, hqr, w, by
      rw [get_put, if_neg (fun e => nd'.1 (by rw [← e]; exact List.mem_map.mpr ⟨q, hqr, rfl⟩))]; exact hw, hne⟩ (fun s hs => hf s (List.mem_cons_of_mem _ hs)) (fv_put ha hp)
    unfold jn
    rcases List.mem_cons.mp hq with rfl | hqr
    · rw [hw]
      simp only
      rw [if_neg (fun e => hne ((eqv_fl (ha _ _ hw) hp).mp e))]
    · cases hg : get a p.1 with
      | none => exact ih hqr
      | some u =>
        simp only
        split
        · exact ih hqr
        · rfl
theorem fv_of (b : A) (nd : Nd b) (h : ∀ p ∈ b, Fl1 p.2) : Fv b := fun x w hw => h (x, w) ((mem_get nd).mpr hw)
theorem jres_comm {b o : A} (nb : Nd b) (hb : Fv b) (no : Nd o) (ho : Fv o) : jres b o = jres o b := by
  have fb := fl_mem nb hb
  have fo := fl_mem no ho
  unfold jres
  by_cases hc : ∃ x w v, get b x = some w ∧ get o x = some v ∧ w ≠ v
  · obtain ⟨x, w, v, h1, h2, h3⟩ := hc
    rw [jn_none o (ofP b) no ⟨(x, v), (mem_get no).mpr h2, w, by rw [get_ofP nb]; exact h1, h3⟩ fo (fv_ofP nb hb),
      jn_none b (ofP o) nb ⟨(x, w), (mem_get nb).mpr h1, v, by rw [get_ofP no]; exact h2, fun e => h3 e.symm⟩ fb (fv_ofP no ho)]
  · have agree : ∀ x w v, get b x = some w -> get o x = some v -> w = v := fun x w v h1 h2 => Classical.byContradiction fun h => hc ⟨x, w, v, h1, h2, h⟩
    rw [jn_some o (ofP b) no (fun p hp w hw => agree p.1 w p.2 (by rwa [get_ofP nb] at hw) ((mem_get no).mp hp)) fo,
      jn_some b (ofP o) nb (fun p hp w hw => (agree p.1 p.2 w ((mem_get nb).mp hp) (by rwa [get_ofP no] at hw)).symm) fb]
    simp only
    rw [asc_eq (fold_nodup _ _ (ofP_nodup b)) (fold_nodup _ _ (ofP_nodup o)) fun x => ?_]
    rw [fold_get _ _ _ no, fold_get _ _ _ nb, get_ofP nb, get_ofP no]
    cases h1 : get b x with
    | none => cases get o x <;> rfl
    | some w =>
      cases h2 : get o x with
      | none => rfl
      | some v => rw [agree x w v h1 h2]
/-! ### looks at what is told -/
theorem plain_prs {a : A} (h : ∀ p ∈ a, Fl1 p.2) : PyData.plainAll (a.map pD) = true ∧ PyData.depthAll (a.map pD) ≤ 1 ∧ PyData.eqvAll (a.map pD) (a.map pD) = true := by
  induction a with
  | nil => exact ⟨rfl, Nat.zero_le _, rfl⟩
  | cons p r ih =>
    obtain ⟨i1, i2, i3⟩ := ih fun q hq => h q (List.mem_cons_of_mem _ hq)
    obtain ⟨x, v⟩ := p
    have hv : Fl1 v := h (x, v) (List.mem_cons_self ..)
    have p1 : PyData.plain (pD (x, v)) = true ∧ PyData.depth (pD (x, v)) ≤ 1 ∧ PyData.eqv (pD (x, v)) (pD (x, v)) = true := by
      cases hv <;> simp [PyData.plain, PyData.plainAll, PyData.depth, PyData.depthAll, PyData.eqv, PyData.eqvAll]
    rw [List.map_cons]
    refine ⟨by simp only [PyData.plainAll, p1.1, i1, Bool.and_self], ?_, by simp only [PyData.eqvAll, p1.2.2, i3, Bool.and_self]⟩
    have z := p1.2.1
    simp only [PyData.depthAll]
    omega
theorem eqOk_bd {a : A} (h : ∀ p ∈ a, Fl1 p.2) : eqOk (bd a) = true ∧ PyData.eqv (bd a) (bd a) = true := by
  obtain ⟨h1, h2, h3⟩ := plain_prs h
  refine ⟨?_, by simpa [PyData.eqv] using h3⟩
  have h2' : PyData.depthAll (a.map fun p => PyData.tuple [.str p.1, p.2]) ≤ 1 := h2
  have z : PyData.depth (bd a) ≤ 64 := by
    simp only [PyData.depth]
    omega
  unfold eqOk
  simp only [PyData.plain, h1, Bool.true_and, decide_eq_true_eq]
  exact z
theorem eqOk_row {vs : List D} (h : ∀ v ∈ vs, Fl1 v) : eqOk (.tuple vs) = true ∧ PyData.eqv (.tuple vs) (.tuple vs) = true := by
  have z : PyData.plainAll vs = true ∧ PyData.depthAll vs = 0 ∧ PyData.eqvAll vs vs = true := by
    induction vs with
    | nil => exact ⟨rfl, rfl, rfl⟩
    | cons d r ih =>
      obtain ⟨i1, i2, i3⟩ := ih fun e he => h e (List.mem_cons_of_mem _ he)
      have hd := h d (List.mem_cons_self ..)
      cases hd <;> simp [PyData.plainAll, PyData.plain, PyData.depthAll, PyData.depth, PyData.eqvAll, PyData.eqv, i1, i2, i3]
  refine ⟨?_, by simpa [PyData.eqv] using z.2.2⟩
  have y : PyData.depth (.tuple vs) ≤ 64 := by
    simp only [PyData.depth]
    omega
  unfold eqOk
  simp only [PyData.plain, z.1, Bool.true_and, decide_eq_true_eq]
  exact y
theorem like_ok (k : Nat) (d : D) (h : d = .none ∨ ∃ a : A, d = bd a ∧ ∀ p ∈ a, Fl1 p.2) : CD m (k + 1) "_law_like" [.pure d, .pure d] = .ret (.pure (.bool true)) [.pure d, .pure d] := by
  rw [cd__law_like]
  rcases h with rfl | ⟨a, rfl, hf⟩
  · simp [d__law_like, b__law_like, runBody, execSs, execS, evalE, evalT, evalEs, evalRs, evalAs, evalI, evalO, evalC, bind_ok, bind_ex, bind_no, settle, rd, Cell.rd, bltD, lenD, ofO, tk, asgC, two, rdTo, cmpD, ordD, binD, truthD, esc, retV, outsOf, setC, hasV, setD, Cell.isOwn, backTo1, idxD, callA, arCells, arCell, refsOf, putBack, size2, isNone]
  · obtain ⟨h1, h2⟩ := eqOk_bd hf
    simp [d__law_like, b__law_like, runBody, execSs, execS, evalE, evalT, evalEs, evalRs, evalAs, evalI, evalO, evalC, bind_ok, bind_ex, bind_no, settle, rd, Cell.rd, bltD, lenD, ofO, tk, asgC, two, rdTo, cmpD, ordD, binD, truthD, esc, retV, outsOf, setC, hasV, setD, Cell.isOwn, backTo1, idxD, callA, arCells, arCell, refsOf, putBack, size2, isNone, isiD, eqD, h1, h2]
theorem fl_asc {a : A} (nd : Nd a) (h : Fv a) : ∀ p ∈ asc a, Fl1 p.2 := fun p hp => by
  have z := (mem_get (asc_nodup nd)).mp hp
  rw [get_asc] at z
  exact h _ _ z
theorem mres_kind {ts vs : List D} {b : A} (hv : ∀ v ∈ vs, Fl1 v) (nd : Nd b) (hf : Fv b) : mres ts vs b = .none ∨ ∃ a : A, mres ts vs b = bd a ∧ ∀ p ∈ a, Fl1 p.2 := by
  unfold mres
  by_cases hn : ts.length = vs.length
  · rw [if_pos hn]
    cases hr : mrun (ofP b) (ts.zip vs) with
    | none => exact .inl rfl
    | some a => exact .inr ⟨asc a, rfl, fl_asc (mrun_nd (ofP_nodup b) hr) (mrun_fv (fv_ofP nd hf) (fun z hz => hv z.2 (by obtain ⟨x, y⟩ := z; exact (List.of_mem_zip hz).2)) hr)⟩
  · rw [if_neg hn]; exact .inl rfl
theorem jres_kind {b o : A} (nb : Nd b) (hb : Fv b) (no : Nd o) (ho : Fv o) : jres b o = .none ∨ ∃ a : A, jres b o = bd a ∧ ∀ p ∈ a, Fl1 p.2 := by
  have fb := fl_mem nb hb
  have fo := fl_mem no ho
  unfold jres
  by_cases hc : ∃ p ∈ o, ∃ w, get (ofP b) p.1 = some w ∧ w ≠ p.2
  · rw [jn_none o (ofP b) no hc fo (fv_ofP nb hb)]; exact .inl rfl
  · rw [jn_some o (ofP b) no (fun p hp w hw => Classical.byContradiction fun h => hc ⟨p, hp, w, hw, h⟩) fo]
    refine .inr ⟨_, rfl, fl_asc (fold_nodup _ _ (ofP_nodup b)) fun x w hw => ?_⟩
    rw [fold_get _ _ _ no, get_ofP nb] at hw
    cases h2 : get o x with
    | some v => rw [h2] at hw; cases hw; exact ho x _ h2
    | none => rw [h2] at hw; exact hb x w hw
end
end DE.K05

namespace DE.K05
open PySem PySem.Spec PyProof.Rows L2 DE.Lib
section
variable {m : Nat}
theorem pick (k : Nat) (a b n : Int) (hs : StOk a b) (hn : 0 < n) (hn2 : n < 2 ^ 200) : ∃ r a' b', CD m (k + 1) "_law_pick" [.inp (stD a b), .pure (.int n)] = .ret (.pure (.int r)) [.inp (stD a' b'), .pure (.int n)] ∧ StOk a' b' ∧ 0 ≤ r ∧ r < n := pick_ok tb__law_pick k a b n hs hn hn2
theorem state (k : Nat) (c : Int) : ∃ a b, CD m (k + 1) "_law_state" [.pure (.int c)] = .ret (.own (stD a b)) [.pure (.int c)] ∧ StOk a b := state_ok tb__law_state k c
theorem value_ok (k : Nat) (a b : Int) (hs : StOk a b) : ∃ d a' b', Tm d ∧ CD m (k + 2) "_law_value" [.inp (stD a b)] = .ret (.pure d) [.inp (stD a' b')] ∧ StOk a' b' := by
  obtain ⟨p, a2, b2, e2, hs2, p0, p1⟩ := pick (m := m) k a b 6 hs (by omega) (by omega)
  obtain ⟨d, hd, hm⟩ := atI_in (xs := [PyData.int 0, .int 1, .int (-1), .str "a", .str "b", .int 1000000000000000000000000000000000000000]) (i := p) p0 p1
  have z6 : 6 ≤ sizeLine := by decide
  refine ⟨d, a2, b2, ?_, ?_, hs2⟩
  · simp only [List.mem_cons, List.not_mem_nil, or_false] at hm
    rcases hm with rfl | rfl | rfl | rfl | rfl | rfl
    · exact .int _
    · exact .int _
    · exact .int _
    · exact .str _ (by decide)
    · exact .str _ (by decide)
    · exact .int _
  · rw [cd__law_value]
    simp [d__law_value, b__law_value, runBody, execSs, execS, evalE, evalT, evalEs, evalRs, evalAs, evalI, evalO, evalC, bind_ok, bind_ex, bind_no, settle, rd, Cell.rd, bltD, lenD, ofO, tk, asgC, two, rdTo, cmpD, ordD, binD, truthD, esc, retV, outsOf, setC, hasV, setD, Cell.isOwn, backTo1, idxD, callA, arCells, arCell, refsOf, putBack, size2, e2, z6, hd]
theorem rng_len (r : Int) : (rngD 0 r).length = r.toNat := by
  unfold rngD
  rw [List.length_map, List.length_range, Int.sub_zero]
theorem terms_ok (k : Nat) (a b : Int) (hs : StOk a b) : ∃ ts a' b', (∀ t ∈ ts, Tm t) ∧ ts.length ≤ 6 ∧ StOk a' b' ∧ CD m (k + 3) "_law_terms" [.inp (stD a b)] = .ret (.pure (.tuple ts)) [.inp (stD a' b')] := by
  obtain ⟨n, a1, b1, e1, hs1, n0, n1⟩ := pick (m := m) (k + 1) a b 7 hs (by omega) (by omega)
  have hok : rngOk n = true := rngOk_in (by omega) (by omega)
  obtain ⟨δ, h1, h2⟩ := forLoop_ind (body := forBody (.nm 2) (execSs (CD m (k + 2)) (glOf cs) m w1__law_terms)) (fun i δ => ∃ ts a b c2, (∀ t ∈ ts, Tm t) ∧ ts.length = i ∧ StOk a b ∧ nin c2 ∧ δ = [.inp (stD a b), .own (.list ts), c2]) (rngD 0 n) 0 [.inp (stD a1 b1), .own (.list []), .emp] ⟨[], a1, b1, .emp, fun _ h => (by cases h), rfl, hs1, fun _ h => (by cases h), rfl⟩ (by
    rintro j d δ hj ⟨ts, a, b, c2, ht, hl, hs, n2, rfl⟩
    have hjl := (List.getElem?_eq_some_iff.mp hj).1
    rw [rng_len] at hjl
    have zl : ts.length < sizeLine := by have := sl; omega
    have z4 : 4 ≤ sizeLine := by decide
    obtain ⟨p, a2, b2, e2, hs2, p0, p1⟩ := pick (m := m) (k + 1) a b 2 hs (by omega) (by omega)
    by_cases hp : p = 0
    · subst hp
      obtain ⟨v, a3, b3, hv, e3, hs3⟩ := value_ok (m := m) k a2 b2 hs2
      refine ⟨[.inp (stD a3 b3), .own (.list (ts ++ [v])), .pure d], .inl ?_, ts ++ [v], a3, b3, _, fun t hm => ?_, by rw [List.length_append, hl]; simp, hs3, fun _ h => (by cases h), rfl⟩
      · cases c2 with
        | inp d => exact absurd rfl (n2 d)
        | _ => simp [forBody, asgD, w1__law_terms, runBody, execSs, execS, evalE, evalT, evalEs, evalRs, evalAs, evalI, evalO, evalC, bind_ok, bind_ex, bind_no, settle, rd, Cell.rd, bltD, lenD, ofO, tk, asgC, two, rdTo, cmpD, ordD, binD, truthD, esc, retV, outsOf, setC, hasV, setD, Cell.isOwn, backTo1, idxD, callA, arCells, arCell, refsOf, putBack, size2, e2, e3, eqD, bi, PyData.eqv, okTy, mthA, mthD, zl]
      · rcases List.mem_append.mp hm with h | h
        · exact ht t h
        · simp at h; subst h; exact hv
    · have hpb : (p == 0) = false := by simpa using hp
      obtain ⟨q, a3, b3, e3, hs3, q0, q1⟩ := pick (m := m) (k + 1) a2 b2 4 hs2 (by omega) (by omega)
      obtain ⟨v, hd, hm⟩ := atI_in (xs := [PyData.str "X", .str "Y", .str "Y0", .str "Zab"]) (i := q) q0 q1
      have hv : Tm v := by
        simp only [List.mem_cons, List.not_mem_nil, or_false] at hm
        rcases hm with rfl | rfl | rfl | rfl <;> exact .str _ (by decide)
      refine ⟨[.inp (stD a3 b3), .own (.list (ts ++ [v])), .pure d], .inl ?_, ts ++ [v], a3, b3, _, fun t hm => ?_, by rw [List.length_append, hl]; simp, hs3, fun _ h => (by cases h), rfl⟩
      · cases c2 with
        | inp d => exact absurd rfl (n2 d)
        | _ => simp [forBody, asgD, w1__law_terms, runBody, execSs, execS, evalE, evalT, evalEs, evalRs, evalAs, evalI, evalO, evalC, bind_ok, bind_ex, bind_no, settle, rd, Cell.rd, bltD, lenD, ofO, tk, asgC, two, rdTo, cmpD, ordD, binD, truthD, esc, retV, outsOf, setC, hasV, setD, Cell.isOwn, backTo1, idxD, callA, arCells, arCell, refsOf, putBack, size2, e2, e3, eqD, bi, PyData.eqv, hpb, okTy, mthA, mthD, zl, z4, hd]
      · rcases List.mem_append.mp hm with h | h
        · exact ht t h
        · simp at h; subst h; exact hv)
  obtain ⟨ts, a2, b2, c2, ht, hl, hs2, n2, rfl⟩ := h2
  rw [rng_len] at hl
  refine ⟨ts, a2, b2, ht, by omega, hs2, ?_⟩
  have hloop : execS (CD m (k + 2)) (glOf cs) m l2__law_terms [.inp (stD a b), .own (.list []), .emp] = .ok .nx [.inp (stD a2 b2), .own (.list ts), c2] := by
    unfold l2__law_terms
    simp [runBody, execSs, execS, evalE, evalT, evalEs, evalRs, evalAs, evalI, evalO, evalC, bind_ok, bind_ex, bind_no, settle, rd, Cell.rd, bltD, lenD, ofO, tk, asgC, two, rdTo, cmpD, ordD, binD, truthD, esc, retV, outsOf, setC, hasV, setD, Cell.isOwn, backTo1, idxD, callA, arCells, arCell, refsOf, putBack, size2, e1, hok]
    exact h1
  rw [cd__law_terms]
  simp [d__law_terms, b__law_terms, runBody, execSs, execS, evalE, evalT, evalEs, evalRs, evalAs, evalI, evalO, evalC, bind_ok, bind_ex, bind_no, settle, rd, Cell.rd, bltD, lenD, ofO, tk, asgC, two, rdTo, cmpD, ordD, binD, truthD, esc, retV, outsOf, setC, hasV, setD, Cell.isOwn, backTo1, idxD, callA, arCells, arCell, refsOf, putBack, size2, hloop]
/-- bindings as drawn -/
def Bs (b : A) : Prop := Nd b ∧ Kv b ∧ Fv b ∧ b.length ≤ 4
theorem binding_ok (k : Nat) (a b : Int) (hs : StOk a b) : ∃ bs a' b', Bs bs ∧ StOk a' b' ∧ CD m (k + 3) "_law_binding" [.inp (stD a b)] = .ret (.pure (bd bs)) [.inp (stD a' b')] := by
  obtain ⟨δ, h1, h2⟩ := forLoop_ind (body := forBody (.nm 2) (execSs (CD m (k + 2)) (glOf cs) m w1__law_binding)) (fun i δ => ∃ (bs : A) (a b : Int) (c2 : Cell), (bs.map (·.1)).Sublist (vars.take i) ∧ (∀ p ∈ bs, Fl1 p.2) ∧ StOk a b ∧ nin c2 ∧ δ = [.inp (stD a b), .own (.list (bs.map pD)), c2]) (vars.map .str) 0 [.inp (stD a b), .own (.list []), .emp] ⟨[], a, b, .emp, List.Sublist.refl _, fun _ h => (by cases h), hs, fun _ h => (by cases h), rfl⟩ (by
    rintro j d δ hj ⟨bs, a, b, c2, hsub, hf, hs, n2, rfl⟩
    rw [Nat.zero_add] at hsub ⊢
    rw [List.getElem?_map] at hj
    cases ej : vars[j]? with
    | none => rw [ej] at hj; cases hj
    | some x =>
      rw [ej] at hj
      cases hj
      have hjl : j < 4 := (List.getElem?_eq_some_iff.mp ej).1
      have tk : vars.take (j + 1) = vars.take j ++ [x] := by rw [List.take_add_one, ej]; rfl
      have lb : bs.length ≤ 4 := by
        have z := hsub.length_le
        rw [List.length_map, List.length_take] at z
        omega
      have zl : bs.length < sizeLine := by have := sl; omega
      have z2 : 2 ≤ sizeLine := by decide
      obtain ⟨p, a2, b2, e2, hs2, p0, p1⟩ := pick (m := m) (k + 1) a b 3 hs (by omega) (by omega)
      by_cases hp : 0 < p
      · obtain ⟨v, a3, b3, hv, e3, hs3⟩ := value_ok (m := m) k a2 b2 hs2
        refine ⟨[.inp (stD a3 b3), .own (.list ((bs ++ [(x, v)]).map pD)), .pure (.str x)], .inl ?_, bs ++ [(x, v)], a3, b3, _, ?_, fun q hq => ?_, hs3, fun _ h => (by cases h), rfl⟩
        · cases c2 with
          | inp d => exact absurd rfl (n2 d)
          | _ => simp [forBody, asgD, w1__law_binding, runBody, execSs, execS, evalE, evalT, evalEs, evalRs, evalAs, evalI, evalO, evalC, bind_ok, bind_ex, bind_no, settle, rd, Cell.rd, bltD, lenD, ofO, tk, asgC, two, rdTo, cmpD, ordD, binD, truthD, esc, retV, outsOf, setC, hasV, setD, Cell.isOwn, backTo1, idxD, callA, arCells, arCell, refsOf, putBack, size2, e2, e3, hp, okTy, mthA, mthD, zl, z2]
        · rw [tk, List.map_append]
          exact hsub.append (List.Sublist.refl _)
        · rcases List.mem_append.mp hq with h | h
          · exact hf q h
          · simp at h; subst h; exact hv.fl
      · refine ⟨[.inp (stD a2 b2), .own (.list (bs.map pD)), .pure (.str x)], .inl ?_, bs, a2, b2, _, ?_, hf, hs2, fun _ h => (by cases h), rfl⟩
        · cases c2 with
          | inp d => exact absurd rfl (n2 d)
          | _ => simp [forBody, asgD, w1__law_binding, runBody, execSs, execS, evalE, evalT, evalEs, evalRs, evalAs, evalI, evalO, evalC, bind_ok, bind_ex, bind_no, settle, rd, Cell.rd, bltD, lenD, ofO, tk, asgC, two, rdTo, cmpD, ordD, binD, truthD, esc, retV, outsOf, setC, hasV, setD, Cell.isOwn, backTo1, idxD, callA, arCells, arCell, refsOf, putBack, size2, e2, hp]
        · rw [tk]
          exact hsub.trans (List.sublist_append_left _ _))
  obtain ⟨bs, a2, b2, c2, hsub, hf, hs2, n2, rfl⟩ := h2
  have hv : vars.take (0 + (vars.map PyData.str).length) = vars := by decide
  rw [hv] at hsub
  have nd : Nd bs := hsub.nodup (by decide)
  refine ⟨bs, a2, b2, ⟨nd, fun x w hw => hsub.subset (mem_keys.mpr (by rw [hw]; rfl)), fv_of bs nd hf, ?_⟩, hs2, ?_⟩
  · have z := hsub.length_le
    rw [List.length_map] at z
    exact z
  · have z4 : 4 ≤ sizeLine := by decide
    have ev : vars.map PyData.str = [.str "X", .str "Y", .str "Y0", .str "Zab"] := rfl
    rw [ev] at h1
    have hloop : execS (CD m (k + 2)) (glOf cs) m l2__law_binding [.inp (stD a b), .own (.list []), .emp] = .ok .nx [.inp (stD a2 b2), .own (.list (bs.map pD)), c2] := by
      unfold l2__law_binding
      simp [runBody, execSs, execS, evalE, evalT, evalEs, evalRs, evalAs, evalI, evalO, evalC, bind_ok, bind_ex, bind_no, settle, rd, Cell.rd, bltD, lenD, ofO, tk, asgC, two, rdTo, cmpD, ordD, binD, truthD, esc, retV, outsOf, setC, hasV, setD, Cell.isOwn, backTo1, idxD, callA, arCells, arCell, refsOf, putBack, size2, itemsD, z4]
      exact h1
    rw [cd__law_binding]
    simp [d__law_binding, b__law_binding, runBody, execSs, execS, evalE, evalT, evalEs, evalRs, evalAs, evalI, evalO, evalC, bind_ok, bind_ex, bind_no, settle, rd, Cell.rd, bltD, lenD, ofO, tk, asgC, two, rdTo, cmpD, ordD, binD, truthD, esc, retV, outsOf, setC, hasV, setD, Cell.isOwn, backTo1, idxD, callA, arCells, arCell, refsOf, putBack, size2, hloop]
end
end DE.K05

namespace DE.K05
open PySem PySem.Spec PyProof.Rows L2 DE.Lib
def r1 : CS := (.asg 1 (.call "_law_state" (.val (.slot 0) .nil)))
def r2 : CS := (.asg 2 (.call "_law_terms" (.ref 1 .nil)))
def r3 : CS := (.asg 3 (.dsp (.cons (.con (.str "X")) (.cons (.call "_law_value" (.ref 1 .nil)) (.cons (.con (.str "Y")) (.cons (.call "_law_value" (.ref 1 .nil)) (.cons (.con (.str "Y0")) (.cons (.call "_law_value" (.ref 1 .nil)) (.cons (.con (.str "Zab")) (.cons (.call "_law_value" (.ref 1 .nil)) .nil))))))))))
def r4 : CS := (.asg 4 (.blt .tuple (.cons c1__law_right .nil)))
def r5 : CS := (.asg 5 (.call "_law_pick" (.ref 1 (.val (.con (.int 4)) .nil))))
def r6 : CS := (.ifs (.cmp .Eq (.slot 5) (.con (.int 1))) (.cons (.asg 4 (.blt .tuple (.cons c2__law_right .nil))) .nil) .nil)
def r7 : CS := (.ifs (.cmp .Eq (.slot 5) (.con (.int 2))) (.cons (.asg 6 (.bin .Add (.slot 4) (.bin .Mult (.tup (.cons (.con (.int 0)) .nil)) (.blt .int (.cons (.cmp .Lt (.blt .len (.cons (.slot 2) .nil)) (.con (.int 6))) .nil))))) (.cons (.asg 4 (.idx (.lst (.cons (.slot 6) (.cons (.slc (.bin .Add (.slot 4) (.tup (.cons (.con (.int 0)) .nil))) (.som (.con (.int 1))) .non) (.cons (.slc (.slot 4) .non (.som (.neg (.con (.int 1))))) .nil)))) (.call "_law_pick" (.ref 1 (.val (.con (.int 3)) .nil))))) .nil)) .nil)
def r8 : CS := (.asg 7 (.call "_law_binding" (.ref 1 .nil)))
def r9 : CS := (.ifs (.cmp .Eq (.call "_law_pick" (.ref 1 (.val (.con (.int 2)) .nil))) (.con (.int 0))) (.cons (.asg 7 (.blt .tuple (.cons c3__law_right .nil))) .nil) .nil)
def r10 : CS := (.asg 8 (.call "_law_binding" (.ref 1 .nil)))
def r11 : CS := (.asg 9 (.call "matched" (.val (.slot 2) (.val (.slot 4) (.val (.slot 7) .nil)))))
def r12 : CS := (.ifs (.nt (.call "_law_like" (.val (.slot 9) (.val (.call "_law_due" (.val (.slot 2) (.val (.slot 4) (.val (.slot 7) .nil)))) .nil)))) (.cons (.ret (.con (.bool false))) .nil) .nil)
def r13 : CS := (.ifs (.an (.cmp .IsNot (.slot 9) (.con .none)) (.cmp .NotEq (.call "put_in" (.val (.slot 2) (.val (.slot 9) .nil))) (.slot 4))) (.cons (.ret (.con (.bool false))) .nil) .nil)
def r14 : CS := (.ifs (.an (.cmp .IsNot (.slot 9) (.con .none)) (.blt .any (.cons c4__law_right .nil))) (.cons (.ret (.con (.bool false))) .nil) .nil)
def r15 : CS := (.asg 10 (.call "put_in" (.val (.slot 2) (.val (.slot 7) .nil))))
def r16 : CS := (.ifs (.orr (.nt (.isi (.slot 10) .tuple)) (.cmp .NotEq (.slot 10) (.call "_law_put" (.val (.slot 2) (.val (.slot 7) .nil))))) (.cons (.ret (.con (.bool false))) .nil) .nil)
def r17 : CS := (.asg 11 (.call "_law_both" (.val (.slot 7) (.val (.slot 8) .nil))))
def r18 : CS := (.ret (.an (.call "_law_like" (.val (.call "joined" (.val (.slot 7) (.val (.slot 8) .nil))) (.val (.slot 11) .nil))) (.call "_law_like" (.val (.call "joined" (.val (.slot 8) (.val (.slot 7) .nil))) (.val (.slot 11) .nil)))))
theorem br : b__law_right = .cons r1 (.cons r2 (.cons r3 (.cons r4 (.cons r5 (.cons r6 (.cons r7 (.cons r8 (.cons r9 (.cons r10 (.cons r11 (.cons r12 (.cons r13 (.cons r14 (.cons r15 (.cons r16 (.cons r17 (.cons r18 .nil))))))))))))))))) := rfl
section
variable {m : Nat}
abbrev env (c : Int) (s t f v w c6 c7 c8 c9 c10 c11 : Cell) : DEnv := [.pure (.int c), s, t, f, v, w, c6, c7, c8, c9, c10, c11, .emp, .emp, .emp, .emp]
theorem h1 (k : Nat) (c : Int) : ∃ a b, StOk a b ∧ execS (CD m (k + 3)) (glOf cs) m r1 (env c .emp .emp .emp .emp .emp .emp .emp .emp .emp .emp .emp) = .ok .nx (env c (.own (stD a b)) .emp .emp .emp .emp .emp .emp .emp .emp .emp .emp) := by
  obtain ⟨a, b, e, hs⟩ := state (m := m) (k + 2) c
  refine ⟨a, b, hs, ?_⟩
  simp [r1, runBody, execSs, execS, evalE, evalT, evalEs, evalRs, evalAs, evalI, evalO, evalC, bind_ok, bind_ex, bind_no, settle, rd, Cell.rd, bltD, lenD, ofO, tk, asgC, two, rdTo, cmpD, ordD, binD, truthD, esc, retV, outsOf, setC, hasV, setD, Cell.isOwn, backTo1, idxD, callA, arCells, arCell, refsOf, putBack, size2, e]
theorem h2 (k : Nat) (c a b : Int) (hs : StOk a b) : ∃ ts a' b', (∀ t ∈ ts, Tm t) ∧ ts.length ≤ 6 ∧ StOk a' b' ∧ execS (CD m (k + 3)) (glOf cs) m r2 (env c (.own (stD a b)) .emp .emp .emp .emp .emp .emp .emp .emp .emp .emp) = .ok .nx (env c (.own (stD a' b')) (.pure (.tuple ts)) .emp .emp .emp .emp .emp .emp .emp .emp .emp) := by
  obtain ⟨ts, a', b', ht, hl, hs', e⟩ := terms_ok (m := m) k a b hs
  refine ⟨ts, a', b', ht, hl, hs', ?_⟩
  simp [r2, runBody, execSs, execS, evalE, evalT, evalEs, evalRs, evalAs, evalI, evalO, evalC, bind_ok, bind_ex, bind_no, settle, rd, Cell.rd, bltD, lenD, ofO, tk, asgC, two, rdTo, cmpD, ordD, binD, truthD, esc, retV, outsOf, setC, hasV, setD, Cell.isOwn, backTo1, idxD, callA, arCells, arCell, refsOf, putBack, size2, e]
abbrev fullA (v1 v2 v3 v4 : D) : A := [("X", v1), ("Y", v2), ("Y0", v3), ("Zab", v4)]
theorem h3 (k : Nat) (c a b : Int) (t : Cell) (hs : StOk a b) : ∃ (f : A) (a' b' : Int), Nd f ∧ f.map (·.1) = vars ∧ (∀ p ∈ f, Fl1 p.2) ∧ StOk a' b' ∧ execS (CD m (k + 3)) (glOf cs) m r3 (env c (.own (stD a b)) t .emp .emp .emp .emp .emp .emp .emp .emp .emp) = .ok .nx (env c (.own (stD a' b')) t (.own (.dict (kv (ofP f)))) .emp .emp .emp .emp .emp .emp .emp .emp) := by
  obtain ⟨v1, a1, b1, q1, e1, hs1⟩ := value_ok (m := m) (k + 1) a b hs
  obtain ⟨v2, a2, b2, q2, e2, hs2⟩ := value_ok (m := m) (k + 1) a1 b1 hs1
  obtain ⟨v3, a3, b3, q3, e3, hs3⟩ := value_ok (m := m) (k + 1) a2 b2 hs2
  obtain ⟨v4, a4, b4, q4, e4, hs4⟩ := value_ok (m := m) (k + 1) a3 b3 hs3
  have mk : mergeKV [] [(.inr "X", v1), (.inr "Y", v2), (.inr "Y0", v3), (.inr "Zab", v4)] = kv (ofP (fullA v1 v2 v3 v4)) := merge_kv (fullA v1 v2 v3 v4)
  refine ⟨fullA v1 v2 v3 v4, a4, b4, by show vars.Nodup; decide, rfl, fun p hp => ?_, hs4, ?_⟩
  · simp only [List.mem_cons, List.not_mem_nil, or_false] at hp
    rcases hp with rfl | rfl | rfl | rfl
    · exact q1.fl
    · exact q2.fl
    · exact q3.fl
    · exact q4.fl
  · cases t <;> simp [r3, runBody, execSs, execS, evalE, evalT, evalEs, evalRs, evalAs, evalI, evalO, evalC, bind_ok, bind_ex, bind_no, settle, rd, Cell.rd, bltD, lenD, ofO, tk, asgC, two, rdTo, cmpD, ordD, binD, truthD, esc, retV, outsOf, setC, hasV, setD, Cell.isOwn, backTo1, idxD, callA, arCells, arCell, refsOf, putBack, size2, e1, e2, e3, e4, pairUp, keyD, mk]
theorem sub_fl {f : A} (hf : Fv f) {t : D} (h : Fl1 t) : Fl1 (sub f t) := by
  unfold sub
  cases h with
  | int n => exact .int n
  | str z =>
    show Fl1 ((get f z).getD (.str z))
    cases e : get f z with
    | none => exact .str z
    | some w => exact hf z w e
theorem h4 (k : Nat) (c : Int) (s : Cell) (ts : List D) (f : A) (ht : ∀ t ∈ ts, Fl1 t) (hl : ts.length ≤ 100) : execS (CD m (k + 3)) (glOf cs) m r4 (env c s (.pure (.tuple ts)) (.own (.dict (kv f))) .emp .emp .emp .emp .emp .emp .emp .emp) = .ok .nx (env c s (.pure (.tuple ts)) (.own (.dict (kv f))) (.pure (.tuple (ts.map (sub f)))) .emp .emp .emp .emp .emp .emp .emp) := by
  have hcomp : evalE (CD m (k + 3)) (glOf cs) c1__law_right (env c s (.pure (.tuple ts)) (.own (.dict (kv f))) .emp .emp .emp .emp .emp .emp .emp .emp) = .ok (.own (.list (ts.map (sub f)))) (env c s (.pure (.tuple ts)) (.own (.dict (kv f))) .emp .emp .emp .emp .emp .emp .emp .emp) := by
    have z := lc_eval (Γ := CD m (k + 3)) (gl := glOf cs) (elt := .mth .get (.slot 3) (.cons (.slot 12) (.cons (.slot 12) .nil))) (tg := .nm 12) (it := .val (.slot 2)) (cond := .non) (own := [12]) (δ := env c s (.pure (.tuple ts)) (.own (.dict (kv f))) .emp .emp .emp .emp .emp .emp .emp .emp) (δ1 := env c s (.pure (.tuple ts)) (.own (.dict (kv f))) .emp .emp .emp .emp .emp .emp .emp .emp) (δ2 := env c s (.pure (.tuple ts)) (.own (.dict (kv f))) .emp .emp .emp .emp .emp .emp .emp .emp) (xs := ts) (g := id) (f := sub f) ?_ (by rfl) (fun t hx => ?_) (by have := sl; omega) (by rfl)
    · exact z
    · simp [runBody, execSs, execS, evalE, evalT, evalEs, evalRs, evalAs, evalI, evalO, evalC, bind_ok, bind_ex, bind_no, settle, rd, Cell.rd, bltD, lenD, ofO, tk, asgC, two, rdTo, cmpD, ordD, binD, truthD, esc, retV, outsOf, setC, hasV, setD, Cell.isOwn, backTo1, idxD, callA, arCells, arCell, refsOf, putBack, size2, itemsD]
    · have e := sub_eq f t (ht t hx)
      simp [runBody, execSs, execS, evalE, evalT, evalEs, evalRs, evalAs, evalI, evalO, evalC, bind_ok, bind_ex, bind_no, settle, rd, Cell.rd, bltD, lenD, ofO, tk, asgC, two, rdTo, cmpD, ordD, binD, truthD, esc, retV, outsOf, setC, hasV, setD, Cell.isOwn, backTo1, idxD, callA, arCells, arCell, refsOf, putBack, size2, asgD, wipeE, okTy, mthA, mthD, e]
  simp [r4, runBody, execSs, execS, evalE, evalT, evalEs, evalRs, evalAs, evalI, evalO, evalC, bind_ok, bind_ex, bind_no, settle, rd, Cell.rd, bltD, lenD, ofO, tk, asgC, two, rdTo, cmpD, ordD, binD, truthD, esc, retV, outsOf, setC, hasV, setD, Cell.isOwn, backTo1, idxD, callA, arCells, arCell, refsOf, putBack, size2, hcomp]
theorem h5 (k : Nat) (c a b : Int) (t f v : Cell) (hs : StOk a b) : ∃ w a' b', StOk a' b' ∧ execS (CD m (k + 3)) (glOf cs) m r5 (env c (.own (stD a b)) t f v .emp .emp .emp .emp .emp .emp .emp) = .ok .nx (env c (.own (stD a' b')) t f v (.pure (.int w)) .emp .emp .emp .emp .emp .emp) := by
  obtain ⟨w, a', b', e, hs', _⟩ := pick (m := m) (k + 2) a b 4 hs (by omega) (by omega)
  exact ⟨w, a', b', hs', by simp [r5, runBody, execSs, execS, evalE, evalT, evalEs, evalRs, evalAs, evalI, evalO, evalC, bind_ok, bind_ex, bind_no, settle, rd, Cell.rd, bltD, lenD, ofO, tk, asgC, two, rdTo, cmpD, ordD, binD, truthD, esc, retV, outsOf, setC, hasV, setD, Cell.isOwn, backTo1, idxD, callA, arCells, arCell, refsOf, putBack, size2, e]⟩
/-- drawn values, one for each term -/
theorem vals_loop (k : Nat) (c : Int) (t f v w : Cell) : ∀ (ds acc : List D) (a b : Int), StOk a b -> acc.length + ds.length ≤ 1000 -> ∃ ys a' b', (∀ y ∈ ys, Fl1 y) ∧ ys.length = ds.length ∧ StOk a' b' ∧
    lcLoop (fun d δ => match asgD (.nm 12) d δ with
          | some δ2 => (evalC (CD m (k + 3)) (glOf cs) .non δ2).bind fun b δ3 => if b = true then (evalE (CD m (k + 3)) (glOf cs) (.call "_law_value" (.ref 1 .nil)) δ3).bind fun r δ4 => (esc r δ4).bind fun y δ5 => .ok (some y) (wipeE δ5 [12]) else .ok none (wipeE δ3 [12])
          | none => .no) ds acc (env c (.own (stD a b)) t f v w .emp .emp .emp .emp .emp .emp) = .ok (acc ++ ys) (env c (.own (stD a' b')) t f v w .emp .emp .emp .emp .emp .emp)
  | [], acc, a, b, hs, _ => ⟨[], a, b, fun _ h => (by cases h), rfl, hs, by simp [lcLoop]⟩
  | d :: ds, acc, a, b, hs, hl => by
    rw [List.length_cons] at hl
    obtain ⟨v1, a1, b1, q1, e1, hs1⟩ := value_ok (m := m) (k + 1) a b hs
    obtain ⟨ys, a2, b2, q2, l2, hs2, e2⟩ := vals_loop k c t f v w ds (acc ++ [v1]) a1 b1 hs1 (by rw [List.length_append]; simp; omega)
    refine ⟨v1 :: ys, a2, b2, fun y hy => ?_, by rw [List.length_cons, List.length_cons, l2], hs2, ?_⟩
    · rcases List.mem_cons.mp hy with rfl | hy
      · exact q1.fl
      · exact q2 y hy
    · have zl : acc.length < sizeLine := by have := sl; omega
      rw [show acc ++ v1 :: ys = acc ++ [v1] ++ ys by simp, ← e2]
      simp only [lcLoop]
      simp [runBody, execSs, execS, evalE, evalT, evalEs, evalRs, evalAs, evalI, evalO, evalC, bind_ok, bind_ex, bind_no, settle, rd, Cell.rd, bltD, lenD, ofO, tk, asgC, two, rdTo, cmpD, ordD, binD, truthD, esc, retV, outsOf, setC, hasV, setD, Cell.isOwn, backTo1, idxD, callA, arCells, arCell, refsOf, putBack, size2, asgD, wipeE, e1, zl]
theorem h6 (k : Nat) (c a b w : Int) (ts vs : List D) (f : Cell) (hs : StOk a b) (hl : ts.length ≤ 100) (lv : vs.length ≤ 100) (hv : ∀ v ∈ vs, Fl1 v) : ∃ vs' a' b', (∀ v ∈ vs', Fl1 v) ∧ vs'.length ≤ 100 ∧ StOk a' b' ∧
    execS (CD m (k + 3)) (glOf cs) m r6 (env c (.own (stD a b)) (.pure (.tuple ts)) f (.pure (.tuple vs)) (.pure (.int w)) .emp .emp .emp .emp .emp .emp) = .ok .nx (env c (.own (stD a' b')) (.pure (.tuple ts)) f (.pure (.tuple vs')) (.pure (.int w)) .emp .emp .emp .emp .emp .emp) := by
  by_cases hw : w = 1
  · subst hw
    obtain ⟨ys, a', b', q, ly, hs', e⟩ := vals_loop (m := m) k c (.pure (.tuple ts)) f (.pure (.tuple vs)) (.pure (.int 1)) ts [] a b hs (by simp; omega)
    have hcomp : evalE (CD m (k + 3)) (glOf cs) c2__law_right (env c (.own (stD a b)) (.pure (.tuple ts)) f (.pure (.tuple vs)) (.pure (.int 1)) .emp .emp .emp .emp .emp .emp) = .ok (.own (.list ys)) (env c (.own (stD a' b')) (.pure (.tuple ts)) f (.pure (.tuple vs)) (.pure (.int 1)) .emp .emp .emp .emp .emp .emp) := by
      unfold c2__law_right
      unfold evalE
      have ei : evalI (CD m (k + 3)) (glOf cs) (.val (.slot 2)) (env c (.own (stD a b)) (.pure (.tuple ts)) f (.pure (.tuple vs)) (.pure (.int 1)) .emp .emp .emp .emp .emp .emp) = .ok ts (env c (.own (stD a b)) (.pure (.tuple ts)) f (.pure (.tuple vs)) (.pure (.int 1)) .emp .emp .emp .emp .emp .emp) := by simp [runBody, execSs, execS, evalE, evalT, evalEs, evalRs, evalAs, evalI, evalO, evalC, bind_ok, bind_ex, bind_no, settle, rd, Cell.rd, bltD, lenD, ofO, tk, asgC, two, rdTo, cmpD, ordD, binD, truthD, esc, retV, outsOf, setC, hasV, setD, Cell.isOwn, backTo1, idxD, callA, arCells, arCell, refsOf, putBack, size2, itemsD]
      rw [ei]
      simp only [bind_ok]
      rw [if_pos (by rfl)]
      have wi : wipeE (env c (.own (stD a b)) (.pure (.tuple ts)) f (.pure (.tuple vs)) (.pure (.int 1)) .emp .emp .emp .emp .emp .emp) [12] = env c (.own (stD a b)) (.pure (.tuple ts)) f (.pure (.tuple vs)) (.pure (.int 1)) .emp .emp .emp .emp .emp .emp := rfl
      rw [wi]
      generalize hL : lcLoop _ ts [] _ = L
      have hL2 := hL.symm.trans e
      subst hL2
      rfl
    refine ⟨ys, a', b', q, by omega, hs', ?_⟩
    simp [r6, runBody, execSs, execS, evalE, evalT, evalEs, evalRs, evalAs, evalI, evalO, evalC, bind_ok, bind_ex, bind_no, settle, rd, Cell.rd, bltD, lenD, ofO, tk, asgC, two, rdTo, cmpD, ordD, binD, truthD, esc, retV, outsOf, setC, hasV, setD, Cell.isOwn, backTo1, idxD, callA, arCells, arCell, refsOf, putBack, size2, eqD, bi, PyData.eqv, hcomp]
  · have hwb : (w == 1) = false := by simpa using hw
    exact ⟨vs, a, b, hv, lv, hs, by simp [r6, runBody, execSs, execS, evalE, evalT, evalEs, evalRs, evalAs, evalI, evalO, evalC, bind_ok, bind_ex, bind_no, settle, rd, Cell.rd, bltD, lenD, ofO, tk, asgC, two, rdTo, cmpD, ordD, binD, truthD, esc, retV, outsOf, setC, hasV, setD, Cell.isOwn, backTo1, idxD, callA, arCells, arCell, refsOf, putBack, size2, eqD, bi, PyData.eqv, hwb]⟩
theorem cut_mem {α : Type} {xs : List α} {lo hi : Option Int} {x : α} (h : x ∈ cutL xs lo hi) : x ∈ xs := List.mem_of_mem_drop (List.mem_of_mem_take h)
theorem cut_len {α : Type} {xs : List α} {lo hi : Option Int} : (cutL xs lo hi).length ≤ xs.length := by
  unfold cutL
  rw [List.length_take, List.length_drop]
  omega
end
end DE.K05

namespace DE.K05
open PySem PySem.Spec PyProof.Rows L2 DE.Lib
section
variable {m : Nat}
theorem h7 (k : Nat) (c a b w : Int) (ts vs : List D) (f : Cell) (hs : StOk a b) (hl : ts.length ≤ 100) (lv : vs.length ≤ 100) (hv : ∀ v ∈ vs, Fl1 v) : ∃ vs' a' b' c6, (∀ v ∈ vs', Fl1 v) ∧ vs'.length ≤ 101 ∧ StOk a' b' ∧
    execS (CD m (k + 3)) (glOf cs) m r7 (env c (.own (stD a b)) (.pure (.tuple ts)) f (.pure (.tuple vs)) (.pure (.int w)) .emp .emp .emp .emp .emp .emp) = .ok .nx (env c (.own (stD a' b')) (.pure (.tuple ts)) f (.pure (.tuple vs')) (.pure (.int w)) c6 .emp .emp .emp .emp .emp) := by
  by_cases hw : w = 2
  · subst hw
    obtain ⟨r, a', b', e, hs', r0, r1⟩ := pick (m := m) (k + 2) a b 3 hs (by omega) (by omega)
    have z1 : 1 ≤ sizeLine := by decide
    have z3 : 3 ≤ sizeLine := by decide
    have zv : vs.length + 1 ≤ sizeLine := by have := sl; omega
    have zv0 : vs.length ≤ sizeLine := by omega
    have zero : Fl1 (.int 0) := .int 0
    by_cases h6 : (ts.length : Int) < 6
    · obtain ⟨d, hd, hm⟩ := atI_in (xs := [PyData.tuple (vs ++ [.int 0]), .tuple (cutL (vs ++ [.int 0]) (some 1) none), .tuple (cutL vs none (some (-1)))]) (i := r) r0 r1
      obtain ⟨vs', rfl, q1, q2⟩ : ∃ vs', d = .tuple vs' ∧ (∀ v ∈ vs', Fl1 v) ∧ vs'.length ≤ 101 := by
        have q : ∀ v ∈ vs ++ [.int 0], Fl1 v := fun v h => by
          rcases List.mem_append.mp h with h | h
          · exact hv v h
          · simp at h; subst h; exact zero
        simp only [List.mem_cons, List.not_mem_nil, or_false] at hm
        rcases hm with rfl | rfl | rfl
        · exact ⟨_, rfl, q, by rw [List.length_append]; simp; omega⟩
        · exact ⟨_, rfl, fun v h => q v (cut_mem h), Nat.le_trans cut_len (by rw [List.length_append]; simp; omega)⟩
        · exact ⟨_, rfl, fun v h => hv v (cut_mem h), Nat.le_trans cut_len (by omega)⟩
      refine ⟨vs', a', b', .pure (.tuple (vs ++ [.int 0])), q1, q2, hs', ?_⟩
      simp [r7, runBody, execSs, execS, evalE, evalT, evalEs, evalRs, evalAs, evalI, evalO, evalC, bind_ok, bind_ex, bind_no, settle, rd, Cell.rd, bltD, lenD, ofO, tk, asgC, two, rdTo, cmpD, ordD, binD, truthD, esc, retV, outsOf, setC, hasV, setD, Cell.isOwn, backTo1, idxD, callA, arCells, arCell, refsOf, putBack, size2, eqD, bi, PyData.eqv, z1, z3, zv, h6, slcD, e, hd]
    · obtain ⟨d, hd, hm⟩ := atI_in (xs := [PyData.tuple vs, .tuple (cutL (vs ++ [.int 0]) (some 1) none), .tuple (cutL vs none (some (-1)))]) (i := r) r0 r1
      obtain ⟨vs', rfl, q1, q2⟩ : ∃ vs', d = .tuple vs' ∧ (∀ v ∈ vs', Fl1 v) ∧ vs'.length ≤ 101 := by
        have q : ∀ v ∈ vs ++ [.int 0], Fl1 v := fun v h => by
          rcases List.mem_append.mp h with h | h
          · exact hv v h
          · simp at h; subst h; exact zero
        simp only [List.mem_cons, List.not_mem_nil, or_false] at hm
        rcases hm with rfl | rfl | rfl
        · exact ⟨_, rfl, hv, by omega⟩
        · exact ⟨_, rfl, fun v h => q v (cut_mem h), Nat.le_trans cut_len (by rw [List.length_append]; simp; omega)⟩
        · exact ⟨_, rfl, fun v h => hv v (cut_mem h), Nat.le_trans cut_len (by omega)⟩
      refine ⟨vs', a', b', .pure (.tuple vs), q1, q2, hs', ?_⟩
      simp [r7, runBody, execSs, execS, evalE, evalT, evalEs, evalRs, evalAs, evalI, evalO, evalC, bind_ok, bind_ex, bind_no, settle, rd, Cell.rd, bltD, lenD, ofO, tk, asgC, two, rdTo, cmpD, ordD, binD, truthD, esc, retV, outsOf, setC, hasV, setD, Cell.isOwn, backTo1, idxD, callA, arCells, arCell, refsOf, putBack, size2, eqD, bi, PyData.eqv, z1, z3, zv, zv0, h6, slcD, e, hd]
  · have hwb : (w == 2) = false := by simpa using hw
    exact ⟨vs, a, b, .emp, hv, by omega, hs, by simp [r7, runBody, execSs, execS, evalE, evalT, evalEs, evalRs, evalAs, evalI, evalO, evalC, bind_ok, bind_ex, bind_no, settle, rd, Cell.rd, bltD, lenD, ofO, tk, asgC, two, rdTo, cmpD, ordD, binD, truthD, esc, retV, outsOf, setC, hasV, setD, Cell.isOwn, backTo1, idxD, callA, arCells, arCell, refsOf, putBack, size2, eqD, bi, PyData.eqv, hwb]⟩
theorem h8 (k : Nat) (c a b : Int) (t f v w c6 : Cell) (hs : StOk a b) : ∃ bs a' b', Bs bs ∧ StOk a' b' ∧ execS (CD m (k + 3)) (glOf cs) m r8 (env c (.own (stD a b)) t f v w c6 .emp .emp .emp .emp .emp) = .ok .nx (env c (.own (stD a' b')) t f v w c6 (.pure (bd bs)) .emp .emp .emp .emp) := by
  obtain ⟨bs, a', b', hb, hs', e⟩ := binding_ok (m := m) k a b hs
  exact ⟨bs, a', b', hb, hs', by simp [r8, runBody, execSs, execS, evalE, evalT, evalEs, evalRs, evalAs, evalI, evalO, evalC, bind_ok, bind_ex, bind_no, settle, rd, Cell.rd, bltD, lenD, ofO, tk, asgC, two, rdTo, cmpD, ordD, binD, truthD, esc, retV, outsOf, setC, hasV, setD, Cell.isOwn, backTo1, idxD, callA, arCells, arCell, refsOf, putBack, size2, e]⟩
theorem h9 (k : Nat) (c a b : Int) (t v w c6 : Cell) (f bs : A) (hs : StOk a b) (hb : Bs bs) (ff : Fv f) (fk : ∀ x ∈ vars, (get f x).isSome = true) : ∃ bs' a' b', Bs bs' ∧ StOk a' b' ∧ execS (CD m (k + 3)) (glOf cs) m r9 (env c (.own (stD a b)) t (.own (.dict (kv f))) v w c6 (.pure (bd bs)) .emp .emp .emp .emp) = .ok .nx (env c (.own (stD a' b')) t (.own (.dict (kv f))) v w c6 (.pure (bd bs')) .emp .emp .emp .emp) := by
  obtain ⟨p, a', b', e, hs', p0, p1⟩ := pick (m := m) (k + 2) a b 2 hs (by omega) (by omega)
  obtain ⟨nd, hk, hf, lb⟩ := hb
  by_cases hp : p = 0
  · subst hp
    have z2 : 2 ≤ sizeLine := by decide
    obtain ⟨bs', hbs⟩ : ∃ bs' : A, bs' = bs.map fun p => (p.1, (get f p.1).getD .none) := ⟨_, rfl⟩
    have ek : bs'.map (·.1) = bs.map (·.1) := by rw [hbs, List.map_map]; rfl
    have nd' : Nd bs' := by unfold Nd; rw [ek]; exact nd
    have kin : ∀ p ∈ bs, p.1 ∈ vars := fun p hp => hk p.1 p.2 ((mem_get nd).mp hp)
    have hcomp : evalE (CD m (k + 3)) (glOf cs) c3__law_right (env c (.own (stD a' b')) t (.own (.dict (kv f))) v w c6 (.pure (bd bs)) .emp .emp .emp .emp) = .ok (.own (.list (bs.map fun p => pD (p.1, (get f p.1).getD .none)))) (env c (.own (stD a' b')) t (.own (.dict (kv f))) v w c6 (.pure (bd bs)) .emp .emp .emp .emp) := by
      refine lc_eval (elt := .tup (.cons (.slot 13) (.cons (.idx (.slot 3) (.slot 13)) .nil))) (tg := .tp [.nm 13, .nm 14]) (it := .val (.slot 7)) (cond := .non) (own := [13, 14]) (xs := bs) (g := pD) (f := fun p => pD (p.1, (get f p.1).getD .none)) (δ1 := env c (.own (stD a' b')) t (.own (.dict (kv f))) v w c6 (.pure (bd bs)) .emp .emp .emp .emp) ?_ (by rfl) (fun p hp => ?_) (by have := sl; omega) (by rfl)
      · simp [runBody, execSs, execS, evalE, evalT, evalEs, evalRs, evalAs, evalI, evalO, evalC, bind_ok, bind_ex, bind_no, settle, rd, Cell.rd, bltD, lenD, ofO, tk, asgC, two, rdTo, cmpD, ordD, binD, truthD, esc, retV, outsOf, setC, hasV, setD, Cell.isOwn, backTo1, idxD, callA, arCells, arCell, refsOf, putBack, size2, itemsD]
      · obtain ⟨u, hu⟩ := Option.isSome_iff_exists.mp (fk p.1 (kin p hp))
        have gx := get_kv f p.1
        rw [hu] at gx
        simp [runBody, execSs, execS, evalE, evalT, evalEs, evalRs, evalAs, evalI, evalO, evalC, bind_ok, bind_ex, bind_no, settle, rd, Cell.rd, bltD, lenD, ofO, tk, asgC, two, rdTo, cmpD, ordD, binD, truthD, esc, retV, outsOf, setC, hasV, setD, Cell.isOwn, backTo1, idxD, callA, arCells, arCell, refsOf, putBack, size2, asgD, asgDs, wipeE, z2, keyD, gx, hu]
    have em : (bs.map fun p => pD (p.1, (get f p.1).getD .none)) = bs'.map pD := by rw [hbs, List.map_map]; rfl
    rw [em] at hcomp
    refine ⟨bs', a', b', ⟨nd', fun x u hu => ?_, fv_of bs' nd' fun q hq => ?_, by rw [hbs, List.length_map]; exact lb⟩, hs', ?_⟩
    · have : x ∈ bs'.map (·.1) := mem_keys.mpr (by rw [hu]; rfl)
      rw [ek] at this
      obtain ⟨q, hq, rfl⟩ := List.mem_map.mp this
      exact kin q hq
    · rw [hbs] at hq
      obtain ⟨p, hp, rfl⟩ := List.mem_map.mp hq
      obtain ⟨u, hu⟩ := Option.isSome_iff_exists.mp (fk p.1 (kin p hp))
      show Fl1 ((get f p.1).getD .none)
      rw [hu]
      exact ff _ _ hu
    · simp [r9, runBody, execSs, execS, evalE, evalT, evalEs, evalRs, evalAs, evalI, evalO, evalC, bind_ok, bind_ex, bind_no, settle, rd, Cell.rd, bltD, lenD, ofO, tk, asgC, two, rdTo, cmpD, ordD, binD, truthD, esc, retV, outsOf, setC, hasV, setD, Cell.isOwn, backTo1, idxD, callA, arCells, arCell, refsOf, putBack, size2, e, eqD, bi, PyData.eqv, hcomp]
  · have hpb : (p == 0) = false := by simpa using hp
    exact ⟨bs, a', b', ⟨nd, hk, hf, lb⟩, hs', by simp [r9, runBody, execSs, execS, evalE, evalT, evalEs, evalRs, evalAs, evalI, evalO, evalC, bind_ok, bind_ex, bind_no, settle, rd, Cell.rd, bltD, lenD, ofO, tk, asgC, two, rdTo, cmpD, ordD, binD, truthD, esc, retV, outsOf, setC, hasV, setD, Cell.isOwn, backTo1, idxD, callA, arCells, arCell, refsOf, putBack, size2, e, eqD, bi, PyData.eqv, hpb]⟩
theorem h10 (k : Nat) (c a b : Int) (t f v w c6 c7 : Cell) (hs : StOk a b) : ∃ bs a' b', Bs bs ∧ StOk a' b' ∧ execS (CD m (k + 3)) (glOf cs) m r10 (env c (.own (stD a b)) t f v w c6 c7 .emp .emp .emp .emp) = .ok .nx (env c (.own (stD a' b')) t f v w c6 c7 (.pure (bd bs)) .emp .emp .emp) := by
  obtain ⟨bs, a', b', hb, hs', e⟩ := binding_ok (m := m) k a b hs
  exact ⟨bs, a', b', hb, hs', by simp [r10, runBody, execSs, execS, evalE, evalT, evalEs, evalRs, evalAs, evalI, evalO, evalC, bind_ok, bind_ex, bind_no, settle, rd, Cell.rd, bltD, lenD, ofO, tk, asgC, two, rdTo, cmpD, ordD, binD, truthD, esc, retV, outsOf, setC, hasV, setD, Cell.isOwn, backTo1, idxD, callA, arCells, arCell, refsOf, putBack, size2, e]⟩
def tail : CSs := .cons r11 (.cons r12 (.cons r13 (.cons r14 (.cons r15 (.cons r16 (.cons r17 (.cons r18 .nil)))))))
theorem h_tail (k : Nat) (c : Int) (s f w c6 : Cell) (ts vs : List D) (bs os : A) (ht : ∀ t ∈ ts, Tm t) (hv : ∀ v ∈ vs, Fl1 v) (hl : ts.length ≤ 100) (lv : vs.length ≤ 1000) (hb : Bs bs) (ho : Bs os) :
    ∃ δ, execSs (CD m (k + 3)) (glOf cs) m tail (env c s (.pure (.tuple ts)) f (.pure (.tuple vs)) w c6 (.pure (bd bs)) (.pure (bd os)) .emp .emp .emp) = .ok (.rt (.pure (.bool true))) (.pure (.int c) :: δ) := by
  obtain ⟨nb, kb, fb, lb⟩ := hb
  obtain ⟨no, ko, fo, lo⟩ := ho
  have g1 := matched_ok (m := m) k ts vs bs ht hv nb fb hl (by omega)
  have g2 := due_ok (m := m) (k + 2) ts vs bs ht hv nb fb hl (by omega)
  have g3 := like_ok (m := m) (k + 2) _ (mres_kind (ts := ts) hv nb fb)
  have g5 := put_ok (m := m) (k + 2) ts bs (fun t h => (ht t h).fl) (by omega)
  have g6 := lput_ok (m := m) (k + 2) ts bs (fun t h => (ht t h).fl) (by omega)
  have g7 := both_ok (m := m) (k + 2) bs os nb fb no fo (by omega) (by omega)
  have g8 := joined_ok (m := m) (k + 2) bs os nb fb no fo (by omega) (by omega)
  have g9 := joined_ok (m := m) (k + 2) os bs no fo nb fb (by omega) (by omega)
  have g10 := like_ok (m := m) (k + 2) _ (jres_kind nb fb no fo)
  rw [← jres_comm nb fb no fo] at g9
  have er := eqOk_row (vs := ts.map (sub (ofP bs))) fun d hd => by
    obtain ⟨t, h, rfl⟩ := List.mem_map.mp hd
    exact sub_fl (fv_ofP nb fb) (ht t h).fl
  obtain ⟨er1, er2⟩ := er
  have er2 : PyData.eqvAll (ts.map (sub (ofP bs))) (ts.map (sub (ofP bs))) = true := by simpa [PyData.eqv] using er2
  have rest : ∀ c9, ∃ δ, execSs (CD m (k + 3)) (glOf cs) m (.cons r15 (.cons r16 (.cons r17 (.cons r18 .nil)))) (env c s (.pure (.tuple ts)) f (.pure (.tuple vs)) w c6 (.pure (bd bs)) (.pure (bd os)) c9 .emp .emp) = .ok (.rt (.pure (.bool true))) (.pure (.int c) :: δ) := fun c9 =>
    ⟨[s, .pure (.tuple ts), f, .pure (.tuple vs), w, c6, .pure (bd bs), .pure (bd os), c9, .pure (.tuple (ts.map (sub (ofP bs)))), .pure (jres bs os), .emp, .emp, .emp, .emp], by
      simp [r15, r16, r17, r18, runBody, execSs, execS, evalE, evalT, evalEs, evalRs, evalAs, evalI, evalO, evalC, bind_ok, bind_ex, bind_no, settle, rd, Cell.rd, bltD, lenD, ofO, tk, asgC, two, rdTo, cmpD, ordD, binD, truthD, esc, retV, outsOf, setC, hasV, setD, Cell.isOwn, backTo1, idxD, callA, arCells, arCell, refsOf, putBack, size2, g5, g6, isiD, eqD, er1, er2, PyData.eqv, g7, g8, g9, g10]⟩
  unfold tail
  by_cases hnone : mres ts vs bs = .none
  · obtain ⟨δ, e⟩ := rest (.pure .none)
    refine ⟨δ, ?_⟩
    rw [hnone] at g1 g2 g3
    have s11 : execS (CD m (k + 3)) (glOf cs) m r11 (env c s (.pure (.tuple ts)) f (.pure (.tuple vs)) w c6 (.pure (bd bs)) (.pure (bd os)) .emp .emp .emp) = .ok .nx (env c s (.pure (.tuple ts)) f (.pure (.tuple vs)) w c6 (.pure (bd bs)) (.pure (bd os)) (.pure .none) .emp .emp) := by simp [r11, runBody, execSs, execS, evalE, evalT, evalEs, evalRs, evalAs, evalI, evalO, evalC, bind_ok, bind_ex, bind_no, settle, rd, Cell.rd, bltD, lenD, ofO, tk, asgC, two, rdTo, cmpD, ordD, binD, truthD, esc, retV, outsOf, setC, hasV, setD, Cell.isOwn, backTo1, idxD, callA, arCells, arCell, refsOf, putBack, size2, g1]
    have s12 : execS (CD m (k + 3)) (glOf cs) m r12 (env c s (.pure (.tuple ts)) f (.pure (.tuple vs)) w c6 (.pure (bd bs)) (.pure (bd os)) (.pure .none) .emp .emp) = .ok .nx (env c s (.pure (.tuple ts)) f (.pure (.tuple vs)) w c6 (.pure (bd bs)) (.pure (bd os)) (.pure .none) .emp .emp) := by simp [r12, runBody, execSs, execS, evalE, evalT, evalEs, evalRs, evalAs, evalI, evalO, evalC, bind_ok, bind_ex, bind_no, settle, rd, Cell.rd, bltD, lenD, ofO, tk, asgC, two, rdTo, cmpD, ordD, binD, truthD, esc, retV, outsOf, setC, hasV, setD, Cell.isOwn, backTo1, idxD, callA, arCells, arCell, refsOf, putBack, size2, g2, g3]
    have s13 : execS (CD m (k + 3)) (glOf cs) m r13 (env c s (.pure (.tuple ts)) f (.pure (.tuple vs)) w c6 (.pure (bd bs)) (.pure (bd os)) (.pure .none) .emp .emp) = .ok .nx (env c s (.pure (.tuple ts)) f (.pure (.tuple vs)) w c6 (.pure (bd bs)) (.pure (bd os)) (.pure .none) .emp .emp) := by simp [r13, runBody, execSs, execS, evalE, evalT, evalEs, evalRs, evalAs, evalI, evalO, evalC, bind_ok, bind_ex, bind_no, settle, rd, Cell.rd, bltD, lenD, ofO, tk, asgC, two, rdTo, cmpD, ordD, binD, truthD, esc, retV, outsOf, setC, hasV, setD, Cell.isOwn, backTo1, idxD, callA, arCells, arCell, refsOf, putBack, size2, isNone]
    have s14 : execS (CD m (k + 3)) (glOf cs) m r14 (env c s (.pure (.tuple ts)) f (.pure (.tuple vs)) w c6 (.pure (bd bs)) (.pure (bd os)) (.pure .none) .emp .emp) = .ok .nx (env c s (.pure (.tuple ts)) f (.pure (.tuple vs)) w c6 (.pure (bd bs)) (.pure (bd os)) (.pure .none) .emp .emp) := by simp [r14, runBody, execSs, execS, evalE, evalT, evalEs, evalRs, evalAs, evalI, evalO, evalC, bind_ok, bind_ex, bind_no, settle, rd, Cell.rd, bltD, lenD, ofO, tk, asgC, two, rdTo, cmpD, ordD, binD, truthD, esc, retV, outsOf, setC, hasV, setD, Cell.isOwn, backTo1, idxD, callA, arCells, arCell, refsOf, putBack, size2, isNone]
    simp only [execSs, s11, s12, s13, s14, bind_ok]
    simp only [execSs] at e
    exact e
  · obtain ⟨a, hr, hn, hm⟩ : ∃ a, mrun (ofP bs) (ts.zip vs) = some a ∧ ts.length = vs.length ∧ mres ts vs bs = bd (asc a) := by
      unfold mres at hnone ⊢
      by_cases hn : ts.length = vs.length
      · rw [if_pos hn] at hnone ⊢
        cases hr : mrun (ofP bs) (ts.zip vs) with
        | none => rw [hr] at hnone; exact absurd rfl hnone
        | some a => exact ⟨a, rfl, hn, rfl⟩
      · rw [if_neg hn] at hnone; exact absurd rfl hnone
    have pb := put_back hn ht hv nb fb kb hr
    have na : Nd a := mrun_nd (ofP_nodup bs) hr
    have fa : Fv a := mrun_fv (fv_ofP nb fb) (fun z hz => (zs_of ht hv z hz).2) hr
    have g4 := put_ok (m := m) (k + 2) ts (asc a) (fun t h => (ht t h).fl) (by omega)
    rw [pb] at g4
    obtain ⟨ev1, ev2⟩ := eqOk_row hv
    have ev2 : PyData.eqvAll vs vs = true := by simpa [PyData.eqv] using ev2
    obtain ⟨ea1, _⟩ := eqOk_bd (fl_asc na fa)
    obtain ⟨δ, e⟩ := rest (.pure (bd (asc a)))
    refine ⟨δ, ?_⟩
    rw [hm] at g1 g2 g3
    have hcomp : evalE (CD m (k + 3)) (glOf cs) c4__law_right (env c s (.pure (.tuple ts)) f (.pure (.tuple vs)) w c6 (.pure (bd bs)) (.pure (bd os)) (.pure (bd (asc a))) .emp .emp) = .ok (.own (.list (bs.map fun _ => .bool false))) (env c s (.pure (.tuple ts)) f (.pure (.tuple vs)) w c6 (.pure (bd bs)) (.pure (bd os)) (.pure (bd (asc a))) .emp .emp) := by
      refine lc_eval (elt := .cmp .NotIn (.slot 15) (.slot 9)) (tg := .nm 15) (it := .val (.slot 7)) (cond := .non) (own := [15]) (xs := bs) (g := pD) (f := fun _ => .bool false) (δ1 := env c s (.pure (.tuple ts)) f (.pure (.tuple vs)) w c6 (.pure (bd bs)) (.pure (bd os)) (.pure (bd (asc a))) .emp .emp) ?_ (by rfl) (fun p hp => ?_) (by have := sl; omega) (by rfl)
      · simp [runBody, execSs, execS, evalE, evalT, evalEs, evalRs, evalAs, evalI, evalO, evalC, bind_ok, bind_ex, bind_no, settle, rd, Cell.rd, bltD, lenD, ofO, tk, asgC, two, rdTo, cmpD, ordD, binD, truthD, esc, retV, outsOf, setC, hasV, setD, Cell.isOwn, backTo1, idxD, callA, arCells, arCell, refsOf, putBack, size2, itemsD]
      · have hp2 := fl_mem nb fb p hp
        have o1 : eqOk (pD p) = true := by
          obtain ⟨x, v⟩ := p
          cases hp2 <;> rfl
        have o2 : inL (pD p) ((asc a).map pD) = true := by
          unfold inL
          rw [List.any_eq_true]
          refine ⟨pD p, List.mem_map.mpr ⟨p, pairs_in nb hr p hp, rfl⟩, ?_⟩
          obtain ⟨x, v⟩ := p
          cases hp2 <;> simp [PyData.eqv, PyData.eqvAll]
        simp only [pD] at o1 o2
        simp [runBody, execSs, execS, evalE, evalT, evalEs, evalRs, evalAs, evalI, evalO, evalC, bind_ok, bind_ex, bind_no, settle, rd, Cell.rd, bltD, lenD, ofO, tk, asgC, two, rdTo, cmpD, ordD, binD, truthD, esc, retV, outsOf, setC, hasV, setD, Cell.isOwn, backTo1, idxD, callA, arCells, arCell, refsOf, putBack, size2, asgD, wipeE, inD, o1, o2, ea1]
    have bo := boolsOf_map (fun _ : Str × D => false) bs
    have s11 : execS (CD m (k + 3)) (glOf cs) m r11 (env c s (.pure (.tuple ts)) f (.pure (.tuple vs)) w c6 (.pure (bd bs)) (.pure (bd os)) .emp .emp .emp) = .ok .nx (env c s (.pure (.tuple ts)) f (.pure (.tuple vs)) w c6 (.pure (bd bs)) (.pure (bd os)) (.pure (bd (asc a))) .emp .emp) := by simp [r11, runBody, execSs, execS, evalE, evalT, evalEs, evalRs, evalAs, evalI, evalO, evalC, bind_ok, bind_ex, bind_no, settle, rd, Cell.rd, bltD, lenD, ofO, tk, asgC, two, rdTo, cmpD, ordD, binD, truthD, esc, retV, outsOf, setC, hasV, setD, Cell.isOwn, backTo1, idxD, callA, arCells, arCell, refsOf, putBack, size2, g1]
    have s12 : execS (CD m (k + 3)) (glOf cs) m r12 (env c s (.pure (.tuple ts)) f (.pure (.tuple vs)) w c6 (.pure (bd bs)) (.pure (bd os)) (.pure (bd (asc a))) .emp .emp) = .ok .nx (env c s (.pure (.tuple ts)) f (.pure (.tuple vs)) w c6 (.pure (bd bs)) (.pure (bd os)) (.pure (bd (asc a))) .emp .emp) := by simp [r12, runBody, execSs, execS, evalE, evalT, evalEs, evalRs, evalAs, evalI, evalO, evalC, bind_ok, bind_ex, bind_no, settle, rd, Cell.rd, bltD, lenD, ofO, tk, asgC, two, rdTo, cmpD, ordD, binD, truthD, esc, retV, outsOf, setC, hasV, setD, Cell.isOwn, backTo1, idxD, callA, arCells, arCell, refsOf, putBack, size2, g2, g3]
    have s13 : execS (CD m (k + 3)) (glOf cs) m r13 (env c s (.pure (.tuple ts)) f (.pure (.tuple vs)) w c6 (.pure (bd bs)) (.pure (bd os)) (.pure (bd (asc a))) .emp .emp) = .ok .nx (env c s (.pure (.tuple ts)) f (.pure (.tuple vs)) w c6 (.pure (bd bs)) (.pure (bd os)) (.pure (bd (asc a))) .emp .emp) := by simp [r13, runBody, execSs, execS, evalE, evalT, evalEs, evalRs, evalAs, evalI, evalO, evalC, bind_ok, bind_ex, bind_no, settle, rd, Cell.rd, bltD, lenD, ofO, tk, asgC, two, rdTo, cmpD, ordD, binD, truthD, esc, retV, outsOf, setC, hasV, setD, Cell.isOwn, backTo1, idxD, callA, arCells, arCell, refsOf, putBack, size2, isNone, g4, eqD, ev1, PyData.eqv, ev2]
    have s14 : execS (CD m (k + 3)) (glOf cs) m r14 (env c s (.pure (.tuple ts)) f (.pure (.tuple vs)) w c6 (.pure (bd bs)) (.pure (bd os)) (.pure (bd (asc a))) .emp .emp) = .ok .nx (env c s (.pure (.tuple ts)) f (.pure (.tuple vs)) w c6 (.pure (bd bs)) (.pure (bd os)) (.pure (bd (asc a))) .emp .emp) := by simp [r14, runBody, execSs, execS, evalE, evalT, evalEs, evalRs, evalAs, evalI, evalO, evalC, bind_ok, bind_ex, bind_no, settle, rd, Cell.rd, bltD, lenD, ofO, tk, asgC, two, rdTo, cmpD, ordD, binD, truthD, esc, retV, outsOf, setC, hasV, setD, Cell.isOwn, backTo1, idxD, callA, arCells, arCell, refsOf, putBack, size2, isNone, hcomp, bo]
    simp only [execSs, s11, s12, s13, s14, bind_ok]
    simp only [execSs] at e
    exact e
end
end DE.K05

namespace DE.K05
open PySem PySem.Spec PyProof.Rows L2 DE.Lib
section
variable {m : Nat}
theorem runBody_rt {Γ : Calls} {gl : Str -> Option D} {W : Nat} {d : CDef} {args : List Cell} {c : Cell} {δ : DEnv} (hl : args.length = d.ps.length) (h : execSs Γ gl W d.body (args ++ List.replicate (d.N.length - args.length) .emp) = .ok (.rt c) δ) :
    runBody Γ gl W d args = .ret c (outsOf d.ps.length δ) := by
  unfold runBody
  rw [if_pos hl, h]
theorem xs_cons {Γ : Calls} {gl : Str -> Option D} {W : Nat} {s : CS} {r : CSs} {δ δ' : DEnv} (h : execS Γ gl W s δ = .ok .nx δ') : execSs Γ gl W (.cons s r) δ = execSs Γ gl W r δ' := by
  simp only [execSs, h, bind_ok]
theorem right_body : d__law_right.body = .cons r1 (.cons r2 (.cons r3 (.cons r4 (.cons r5 (.cons r6 (.cons r7 (.cons r8 (.cons r9 (.cons r10 tail))))))))) := br
theorem right_len {c : Int} : [Cell.pure (.int c)].length = d__law_right.ps.length := rfl
theorem right_env (c : Int) : [Cell.pure (.int c)] ++ List.replicate (d__law_right.N.length - [Cell.pure (.int c)].length) .emp = env c .emp .emp .emp .emp .emp .emp .emp .emp .emp .emp .emp := rfl
theorem right_ok (k : Nat) (c : Int) : ∃ o, CD m (k + 4) "_law_right" [.pure (.int c)] = .ret (.pure (.bool true)) o := by
  obtain ⟨a1, b1, hs1, e1⟩ := h1 (m := m) k c
  obtain ⟨ts, a2, b2, ht, hl, hs2, e2⟩ := h2 (m := m) k c a1 b1 hs1
  obtain ⟨f, a3, b3, nf, kf, ff, hs3, e3⟩ := h3 (m := m) k c a2 b2 (.pure (.tuple ts)) hs2
  have fv := fv_of f nf ff
  have fo := fv_ofP nf fv
  have e4 := h4 (m := m) k c (.own (stD a3 b3)) ts (ofP f) (fun t h => (ht t h).fl) (by omega)
  have hv0 : ∀ v ∈ ts.map (sub (ofP f)), Fl1 v := fun v hv => by
    obtain ⟨t, h, rfl⟩ := List.mem_map.mp hv
    exact sub_fl fo (ht t h).fl
  obtain ⟨w, a5, b5, hs5, e5⟩ := h5 (m := m) k c a3 b3 (.pure (.tuple ts)) (.own (.dict (kv (ofP f)))) (.pure (.tuple (ts.map (sub (ofP f))))) hs3
  obtain ⟨vs, a6, b6, hv, lv, hs6, e6⟩ := h6 (m := m) k c a5 b5 w ts (ts.map (sub (ofP f))) (.own (.dict (kv (ofP f)))) hs5 (by omega) (by rw [List.length_map]; omega) hv0
  obtain ⟨vs', a7, b7, c6, hv', lv', hs7, e7⟩ := h7 (m := m) k c a6 b6 w ts vs (.own (.dict (kv (ofP f)))) hs6 (by omega) lv hv
  obtain ⟨bs, a8, b8, hb, hs8, e8⟩ := h8 (m := m) k c a7 b7 (.pure (.tuple ts)) (.own (.dict (kv (ofP f)))) (.pure (.tuple vs')) (.pure (.int w)) c6 hs7
  have fk : ∀ x ∈ vars, (get (ofP f) x).isSome = true := fun x hx => by
    rw [get_ofP nf]
    exact mem_keys.mp (by rw [kf]; exact hx)
  obtain ⟨bs', a9, b9, hb', hs9, e9⟩ := h9 (m := m) k c a8 b8 (.pure (.tuple ts)) (.pure (.tuple vs')) (.pure (.int w)) c6 (ofP f) bs hs8 hb fo fk
  obtain ⟨os, a10, b10, ho, hs10, e10⟩ := h10 (m := m) k c a9 b9 (.pure (.tuple ts)) (.own (.dict (kv (ofP f)))) (.pure (.tuple vs')) (.pure (.int w)) c6 (.pure (bd bs')) hs9
  obtain ⟨δ, et⟩ := h_tail (m := m) k c (.own (stD a10 b10)) (.own (.dict (kv (ofP f)))) (.pure (.int w)) c6 ts vs' bs' os ht hv' (by omega) (by omega) hb' ho
  rw [cd__law_right]
  refine ⟨_, runBody_rt (δ := .pure (.int c) :: δ) right_len ?_⟩
  rw [right_body]
  rw [right_env c]
  rw [xs_cons e1, xs_cons e2, xs_cons e3, xs_cons e4, xs_cons e5, xs_cons e6, xs_cons e7, xs_cons e8, xs_cons e9, xs_cons e10]
  exact et
theorem law_ok (k : Nat) (cells : List Int) (hc : cells.length ≤ 63) : ∃ outs, CD m (k + 5) "law" [.pure (.list (cells.map .int))] = .ret (.pure (.bool true)) outs := by
  have g : ∃ f : Int -> List Cell, ∀ c, CD m (k + 4) "_law_right" [.pure (.int c)] = .ret (.pure (.bool true)) (f c) := Classical.skolem.mp fun c => right_ok k c
  obtain ⟨fo, hfo⟩ := g
  have pb1 : ∀ (d : D) (o : List Cell) (δ : DEnv), putBack [Ar.d d] o δ = δ := fun d o δ => by cases o <;> simp [putBack]
  have hcomp : evalE (CD m (k + 4)) (glOf cs) c1_law [.pure (.list (cells.map .int)), .emp] = .ok (.own (.list (cells.map fun _ => .bool true))) [.pure (.list (cells.map .int)), .emp] := by
    refine lc_eval (elt := .call "_law_right" (.val (.slot 1) .nil)) (tg := .nm 1) (it := .val (.slot 0)) (cond := .non) (own := [1]) (xs := cells) (g := .int) (f := fun _ => .bool true) (δ1 := [.pure (.list (cells.map .int)), .emp]) ?_ (by rfl) (fun x hx => ?_) (by have := sl; omega) (by rfl)
    · simp [runBody, execSs, execS, evalE, evalT, evalEs, evalRs, evalAs, evalI, evalO, evalC, bind_ok, bind_ex, bind_no, settle, rd, Cell.rd, bltD, lenD, ofO, tk, asgC, two, rdTo, cmpD, ordD, binD, truthD, esc, retV, outsOf, setC, hasV, setD, Cell.isOwn, backTo1, idxD, callA, arCells, arCell, refsOf, putBack, size2, itemsD]
    · simp [pb1, runBody, execSs, execS, evalE, evalT, evalEs, evalRs, evalAs, evalI, evalO, evalC, bind_ok, bind_ex, bind_no, settle, rd, Cell.rd, bltD, lenD, ofO, tk, asgC, two, rdTo, cmpD, ordD, binD, truthD, esc, retV, outsOf, setC, hasV, setD, Cell.isOwn, backTo1, idxD, callA, arCells, arCell, refsOf, size2, asgD, wipeE, hfo]
  have nil1 : Nd [] ∧ Fv [] := ⟨by simp [Nd], fun _ _ h => (by cases h)⟩
  have q1 : CD m (k + 4) "matched" [.pure (.tuple []), .pure (.tuple []), .pure (.tuple [])] = .ret (.pure (.tuple [])) [.pure (.tuple []), .pure (.tuple []), .pure (.tuple [])] := by
    have z := matched_ok (m := m) (k + 1) [] [] [] (fun _ h => by cases h) (fun _ h => by cases h) nil1.1 nil1.2 (by simp) (by simp)
    have e : mres [] [] [] = .tuple [] := by kernel_rfl
    rw [e] at z
    exact z
  have q2 : CD m (k + 4) "joined" [.pure (.tuple []), .pure (.tuple [])] = .ret (.pure (.tuple [])) [.pure (.tuple []), .pure (.tuple [])] := by
    have z := joined_ok (m := m) (k + 3) [] [] nil1.1 nil1.2 nil1.1 nil1.2 (by simp) (by simp)
    have e : jres [] [] = .tuple [] := by kernel_rfl
    rw [e] at z
    exact z
  have q3 : CD m (k + 4) "put_in" [.pure (.tuple []), .pure (.tuple [])] = .ret (.pure (.tuple [])) [.pure (.tuple []), .pure (.tuple [])] := put_ok (m := m) (k + 3) [] [] (fun _ h => by cases h) (by simp)
  have o1 : eqOk (.tuple []) = true := rfl
  have bo := boolsOf_map (fun _ : Int => true) cells
  have ba : (cells.map fun _ => true).all id = true := by simp
  have z0 : 0 ≤ sizeLine := Nat.zero_le _
  rw [cd_law]
  refine ⟨[.pure (.list (cells.map .int))], ?_⟩
  simp [d_law, b_law, runBody, execSs, execS, evalE, evalT, evalEs, evalRs, evalAs, evalI, evalO, evalC, bind_ok, bind_ex, bind_no, settle, rd, Cell.rd, bltD, lenD, ofO, tk, asgC, two, rdTo, cmpD, ordD, binD, truthD, esc, retV, outsOf, setC, hasV, setD, Cell.isOwn, backTo1, idxD, callA, arCells, arCell, refsOf, putBack, size2, q1, q2, q3, eqD, o1, PyData.eqv, PyData.eqvAll, hcomp, bo]
end
end DE.K05
open PySem PySem.W PySem.Calls PyProof.Rows
theorem PySem.Challenge.cw_stayledger_k05_whole_matching_holds : PySem.Challenge.rw_stayledger_k05_whole_matching.Holds := by
  w_on; o_law
  refine HandSHeadRun.head_any (r := OpenLaw.row PySem.Challenge.rw_stayledger_k05_whole_matching) (q := view (OpenLaw.row PySem.Challenge.rw_stayledger_k05_whole_matching).prog [23]) (H := DE.K05.hk) (ob := DE.K05.ob) (M := 3000) (loose := DE.K05.loose) (d := HandSHeadRun.topDef (OpenLaw.row PySem.Challenge.rw_stayledger_k05_whole_matching).prog 23) (kwd := []) DE.K05.ob_eq
    (by kernel_rfl) (fun s => by kernel_rfl) DE.K05.run (by kernel_rfl) (by kernel_rfl) (by kernel_rfl) (by rfl) (by first | assumption | decide +kernel) (by decide +kernel) ⟨rfl, rfl, rfl, rfl, rfl, by decide +kernel⟩ ?hw ?hc
  case hw => w_witness2
  case hc =>
    exact DE.law_walk (l := PySem.Challenge.rw_stayledger_k05_whole_matching) (n := 63) (k := 100) (m := 1000000) (e := DE.K05.e_law) (x := "script") rfl (by decide) (by kernel_rfl) ⟨rfl, by decide, by decide⟩ DE.K05.oks (by simp [DE.K05.es]) DE.K05.tb_law rfl (by kernel_rfl) fun ns h _ => DE.K05.law_ok 95 ns h
