import PyProof.Rows.All
import Wide.All
import OpenK.AllK
import Wide.FinOn
import HandS.ForMost
import HandS.Exc
import HandS.TryOnly
import HandS.ExcOwn
import HandS.WordsExc
import HandS.CallSlots
import HandS.Walk
import HandS.Lambda
import HandS.Wide
import HandS.TupAny
import HandS.TupLe
import HandS.TupMul
import HandS.SortInts
import HandS.SortKw
import HandS.Conv
import HandS.IsInst
import HandS.SetFor
import HandS.More
import HandS.Rev
import KE.KTup
import HandS.Text
import HandS.EndBits
import HandS.Deep
import HandS.ExcIs
import KE.GoesMore
import PyProof.EnumMake
import PyProof.Draws
import KE.LtData
import HandS.RevRange
import HandS.TupSets
import PyProof.CollectIter
import HandS.FStr
import HandS.Iter
import HandS.RaiseMore
import KE.KDictDisplayH
import HandS.ExcInit
import HandS.ExcField
import HandS.ExcInitHot
import KE.KExcIs
import PyProof.StrOps2
import HandS.EndTab
import HandS.ListItems
import KE.KDictList
import HandS.SortRule
import KE.SortKeyHeap
import HandS.TryMany
import PySem.Challenge.RW_ownboxes_k03_orders_by_rings
set_option Elab.async false
set_option linter.all false
set_option maxRecDepth 100000
set_option maxHeartbeats 1000000
set_option autoImplicit false
/-! MP: a layer of plain data over HandS: Python values as trees, local lists as owned slots, statements as functions of the slots. -/
namespace MP
open PySem PySem.Spec L2

abbrev D := PyData
/-- a condition that no whnf decides -/
def Ok (p : Prop) : Prop := p
noncomputable instance (p : Prop) : Decidable (Ok p) := Classical.propDecidable p
@[simp] theorem ok_iff (p : Prop) : Ok p ↔ p := Iff.rfl
theorem ok_pos {α : Type} {p : Prop} {a b : α} (h : p) : (if Ok p then a else b) = a := if_pos h
theorem ok_neg {α : Type} {p : Prop} {a b : α} (h : ¬ p) : (if Ok p then a else b) = b := if_neg h
/-- the refusals of the program -/
inductive EC where
  | BoxError | BadOrder | BadBox | BadOpenings | NoPerson | TooMany | NoNumber | BadPlan | NoHelp | BadGroup | BadText
  deriving DecidableEq
structure Exn where
  c : EC
  row : Option Int
/-- a function object that is made while the program runs -/
def FunO (f : Addr) (o : Obj) : HO := .ext fun h => h.get? f = some o
/-- the closure that a def was handed: its function object, its code object, the name of its code, what it has captured -/
structure Cap where
  f : Addr
  c : Addr
  q : Str
  o : Obj
  k : V ⊕ Addr
/-- the classes of refusals; the tables of code objects; the closure -/
structure Cl where
  a : EC → Addr
  T : List (Addr × Str)
  cap : Option Cap
instance : CoeFun Cl (fun _ => EC → Addr) := ⟨Cl.a⟩
/-- the heap but for the tables -/
def noT (T : List (Addr × Str)) (H : Hp) : Hp := fun p => if p ∈ T.map (·.1) then none else H p
/-- what a call leaves as it was -/
def Stp (T : List (Addr × Str)) (H H' : Hp) : Prop := Same (noT T H) H' ∧ LamX.Tabs T H'
theorem noT_sub {T : List (Addr × Str)} {H : Hp} : Same (noT T H) H := fun p o e => by
  unfold noT at e
  split at e
  · cases e
  · exact e
theorem noT_at {T : List (Addr × Str)} {H : Hp} {p : Addr} (h : p ∉ T.map (·.1)) : noT T H p = H p := if_neg h
theorem tabs_at {T : List (Addr × Str)} {H : Hp} {p : Addr} (t : LamX.Tabs T H) (h : p ∈ T.map (·.1)) : ∃ ps, H p = some (.tbl ps) := by
  obtain ⟨x, hx, rfl⟩ := List.mem_map.mp h
  obtain ⟨ps, e, _⟩ := t x hx
  exact ⟨ps, e⟩
theorem noT_no {T : List (Addr × Str)} {H : Hp} {p : Addr} {o : HO} (t : LamX.Tabs T H) (e : H p = some o) (n : ∀ ps, o ≠ .tbl ps) : p ∉ T.map (·.1) := fun h => by
  obtain ⟨ps, e2⟩ := tabs_at t h
  rw [e] at e2
  exact n ps (Option.some.inj e2)
theorem noT_none {T : List (Addr × Str)} {H H' : Hp} {p : Addr} {o : HO} (t : LamX.Tabs T H') (e : noT T H p = none) (e2 : H' p = some o) (n : ∀ ps, o ≠ .tbl ps) : H p = none := (noT_at (noT_no t e2 n)).symm.trans e
/-- the tables are good, and no data -/
def TOk (T : List (Addr × Str)) (F H : Hp) : Prop := LamX.Tabs T H ∧ ∀ p ∈ T.map (·.1), F p = none
theorem TOk.put {T : List (Addr × Str)} {F H : Hp} {p : Addr} {ho : HO} (t : TOk T F H) (n : p ∉ T.map (·.1)) : ∀ q ∈ T.map (·.1), upd F p ho q = none := fun q hq => by
  rw [upd_ne (fun z : q = p => n (by rw [← z]; exact hq))]; exact t.2 q hq
theorem TOk.new {T : List (Addr × Str)} {F H : Hp} {p : Addr} (t : TOk T F H) (n : H p = none) : p ∉ T.map (·.1) := fun h => by
  obtain ⟨ps, e⟩ := tabs_at t.1 h
  rw [n] at e; cases e
theorem noT_hf {T : List (Addr × Str)} {F0 F' H : Hp} (h1 : ∀ p ∈ T.map (·.1), F0 p = none) (h2 : ∀ p ∈ T.map (·.1), F' p = none) (h : ∀ p o, noT T H p = some o → F' p = F0 p) : ∀ p o, H p = some o → F' p = F0 p := fun p o e => by
  by_cases hp : p ∈ T.map (·.1)
  · rw [h1 p hp, h2 p hp]
  · exact h p o ((noT_at hp).trans e)
theorem Stp.refl {T : List (Addr × Str)} {H : Hp} (t : LamX.Tabs T H) : Stp T H H := ⟨noT_sub, t⟩
theorem Stp.of {T : List (Addr × Str)} {H H' : Hp} (t : LamX.Tabs T H) (e : Same H H') : Stp T H H' := ⟨L2.Same.trans noT_sub e, t.ext e⟩
/-- what may be changed -/
inductive MO where
  | lst (xs : List D)
  | dic (kvs : List (Key × D))
  | dct (kvs : List (List Key × D))
  | raw (vs : List V)
/-- what a name holds: nothing known; data; an object of its own; one that is lent by the caller; one that a loop walks; a refusal -/
inductive Slot where
  | un
  | val (d : D)
  | own (o : MO)
  | lnt (o : MO)
  | lck (o : MO)
  | exc (x : Exn)
  | fn (ds : List D)
  | nst (b : Bool) (xs : List (Option D × List D))
abbrev SEnv := List Slot
/-- what an expression gives: what stands in a slot; data; a new object -/
inductive Ret where
  | bor (i : Nat)
  | val (d : D)
  | own (o : MO)
inductive Res (α : Type) where
  | ok (a : α) (E : SEnv)
  | ex (x : Exn) (E : SEnv)
  | no
abbrev M (α : Type) := SEnv → Res α
def Res.bind {α β : Type} (r : Res α) (f : α → SEnv → Res β) : Res β := match r with
  | .ok a E => f a E
  | .ex x E => .ex x E
  | .no => .no
@[simp] theorem bind_ok {α β : Type} (a : α) (E : SEnv) (f : α → SEnv → Res β) : (Res.ok a E).bind f = f a E := rfl
@[simp] theorem bind_ex {α β : Type} (x : Exn) (E : SEnv) (f : α → SEnv → Res β) : (Res.ex x E : Res α).bind f = .ex x E := rfl
@[simp] theorem bind_no {α β : Type} (f : α → SEnv → Res β) : (Res.no : Res α).bind f = .no := rfl

/-! ### how data lies in the heap -/
theorem at_snoc {α : Type} {T : List α} {x y : α} {k : Nat} (e : (T ++ [x])[k]? = some y) : T[k]? = some y ∨ (k = T.length ∧ y = x) := by
  rcases Nat.lt_or_ge k T.length with hk | hk
  · rw [List.getElem?_append_left hk] at e; exact .inl e
  · rw [List.getElem?_append_right hk] at e
    have hk0 : k - T.length = 0 := by
      rcases Nat.lt_or_ge (k - T.length) 1 with h1 | h1
      · omega
      · rw [List.getElem?_eq_none (by simpa using h1)] at e; cases e
    rw [hk0] at e
    exact .inr ⟨by omega, (Option.some.inj e).symm⟩
/-! data; a tuple always lies tracked -/
mutual
inductive Dp (K : PySem.W.Frag) (H : Hp) : V → PyData → Prop
  | non : Dp K H .non .none
  | bl (b : Bool) : Dp K H (.bl b) (.bool b)
  | int (i : Int) : Dp K H (.int i) (.int i)
  | str (x : Str) : Dp K H (.str x) (.str x)
  | lst {a : Addr} {xs : List V} {ds : List PyData} : SqL K H a xs → DpAll K H xs ds → Dp K H (.ref a) (.list ds)
  | tup {a : Addr} {xs : List V} {ds : List PyData} : H a = some (.tup xs) → DpAll K H xs ds → Dp K H (.ref a) (.tuple ds)
inductive DpAll (K : PySem.W.Frag) (H : Hp) : List V → List PyData → Prop
  | nil : DpAll K H [] []
  | cons {v : V} {vs : List V} {d : PyData} {ds : List PyData} : Dp K H v d → DpAll K H vs ds → DpAll K H (v :: vs) (d :: ds)
end
mutual
theorem Dp.low {K : PySem.W.Frag} {H : Hp} : ∀ {v : V} {d : PyData}, Dp K H v d → L2.Dp K H v d
  | _, _, .non => .non
  | _, _, .bl b => .bl b
  | _, _, .int i => .int i
  | _, _, .str x => .str x
  | _, _, .lst h hs => .lst h (DpAll.low hs)
  | _, _, .tup h hs => .tup (SqT.of h) (DpAll.low hs)
theorem DpAll.low {K : PySem.W.Frag} {H : Hp} : ∀ {vs : List V} {ds : List PyData}, DpAll K H vs ds → L2.DpAll K H vs ds
  | _, _, .nil => .nil
  | _, _, .cons h hs => .cons (Dp.low h) (DpAll.low hs)
end
theorem Same.seqT {K : PySem.W.Frag} {H H' : Hp} {a : Addr} {xs : List V} (e : Same H H') (h : SqT K H a xs) : SqT K H' a xs := by
  rcases h with (h | ⟨o, h⟩) | h
  · exact .inl (.inl (e _ _ h))
  · exact .inl (.inr ⟨o, e _ _ h⟩)
  · exact .inr h
section
variable {K : PySem.W.Frag} {F F' : Hp}
mutual
theorem dp_mono (e : Same F F') : ∀ {v : V} {d : D}, Dp K F v d → Dp K F' v d
  | _, _, .non => .non
  | _, _, .bl b => .bl b
  | _, _, .int i => .int i
  | _, _, .str x => .str x
  | _, _, .lst h hs => .lst (L2.Same.seq e h) (dps_mono e hs)
  | _, _, .tup h hs => .tup (e _ _ h) (dps_mono e hs)
theorem dps_mono (e : Same F F') : ∀ {vs : List V} {ds : List D}, DpAll K F vs ds → DpAll K F' vs ds
  | _, _, .nil => .nil
  | _, _, .cons h hs => .cons (dp_mono e h) (dps_mono e hs)
end
theorem dps_len : ∀ {vs : List V} {ds : List D}, DpAll K F vs ds → vs.length = ds.length
  | _, _, .nil => rfl
  | _, _, .cons _ hs => congrArg (· + 1) (dps_len hs)
theorem dps_get : ∀ {vs : List V} {ds : List D} {i : Nat} {d : D}, DpAll K F vs ds → ds[i]? = some d → ∃ v, vs[i]? = some v ∧ Dp K F v d
  | _, _, _, _, .nil, e => by simp at e
  | _, _, 0, _, .cons h _, e => by simp at e; subst e; exact ⟨_, rfl, h⟩
  | _, _, i + 1, _, .cons _ hs, e => by
    obtain ⟨v, h1, h2⟩ := dps_get (i := i) hs (by simpa using e)
    exact ⟨v, by simpa using h1, h2⟩
theorem dps_getV : ∀ {vs : List V} {ds : List D} {i : Nat} {v : V}, DpAll K F vs ds → vs[i]? = some v → ∃ d, ds[i]? = some d ∧ Dp K F v d
  | _, _, _, _, .nil, e => by simp at e
  | _, _, 0, _, .cons h _, e => by simp at e; subst e; exact ⟨_, rfl, h⟩
  | _, _, i + 1, _, .cons _ hs, e => by
    obtain ⟨v, h1, h2⟩ := dps_getV (i := i) hs (by simpa using e)
    exact ⟨v, by simpa using h1, h2⟩
theorem dps_app : ∀ {vs vs' : List V} {ds ds' : List D}, DpAll K F vs ds → DpAll K F vs' ds' → DpAll K F (vs ++ vs') (ds ++ ds')
  | _, _, _, _, .nil, s => s
  | _, _, _, _, .cons h hs, s => .cons h (dps_app hs s)
theorem dps_take : ∀ {vs : List V} {ds : List D} (n : Nat), DpAll K F vs ds → DpAll K F (vs.take n) (ds.take n)
  | _, _, 0, _ => .nil
  | _, _, _ + 1, .nil => .nil
  | _, _, n + 1, .cons h hs => .cons h (dps_take n hs)
theorem dps_drop : ∀ {vs : List V} {ds : List D} (n : Nat), DpAll K F vs ds → DpAll K F (vs.drop n) (ds.drop n)
  | _, _, 0, h => h
  | _, _, _ + 1, .nil => .nil
  | _, _, n + 1, .cons _ hs => dps_drop n hs
theorem dps_set {v : V} {d : D} (r : Dp K F v d) : ∀ {vs : List V} {ds : List D} (n : Nat), DpAll K F vs ds → DpAll K F (vs.set n v) (ds.set n d)
  | _, _, _, .nil => .nil
  | _, _, 0, .cons _ hs => .cons r hs
  | _, _, n + 1, .cons h hs => .cons h (dps_set r n hs)
theorem dps_erase : ∀ {vs : List V} {ds : List D} (n : Nat), DpAll K F vs ds → DpAll K F (vs.eraseIdx n) (ds.eraseIdx n)
  | _, _, _, .nil => .nil
  | _, _, 0, .cons _ hs => hs
  | _, _, n + 1, .cons h hs => .cons h (dps_erase n hs)
theorem dps_rev {vs : List V} {ds : List D} (h : DpAll K F vs ds) : DpAll K F vs.reverse ds.reverse := by
  induction vs generalizing ds with
  | nil => cases h; exact .nil
  | cons v vs ih => cases h with
    | cons h hs => rw [List.reverse_cons, List.reverse_cons]; exact dps_app (ih hs) (.cons h .nil)
theorem dps_rep {vs : List V} {ds : List D} (h : DpAll K F vs ds) : ∀ n : Nat, DpAll K F (List.replicate n vs).flatten (List.replicate n ds).flatten
  | 0 => .nil
  | n + 1 => by rw [List.replicate_succ, List.replicate_succ, List.flatten_cons, List.flatten_cons]; exact dps_app h (dps_rep h n)
theorem dps_ints : ∀ {vs : List V} {is : List Int}, DpAll K F vs (is.map PyData.int) → vs = is.map V.int
  | _, [], .nil => rfl
  | _, i :: is, .cons h hs => by cases h; rw [dps_ints hs]; rfl
theorem dps_of_ints : ∀ (is : List Int), DpAll K F (is.map V.int) (is.map PyData.int)
  | [] => .nil
  | i :: is => .cons (.int i) (dps_of_ints is)
theorem dps_bls : ∀ {vs : List V} {is : List Bool}, DpAll K F vs (is.map PyData.bool) → vs = is.map V.bl
  | _, [], .nil => rfl
  | _, i :: is, .cons h hs => by cases h; rw [dps_bls hs]; rfl
theorem dps_strs : ∀ {vs : List V} {is : List Str}, DpAll K F vs (is.map PyData.str) → vs = is.map V.str
  | _, [], .nil => rfl
  | _, i :: is, .cons h hs => by cases h; rw [dps_strs hs]; rfl
theorem dps_of_strs : ∀ (is : List Str), DpAll K F (is.map V.str) (is.map PyData.str)
  | [] => .nil
  | i :: is => .cons (.str i) (dps_of_strs is)
end

/-- the value at a tracked place is this object -/
def MRep (K : PySem.W.Frag) (F : Hp) (ho : HO) : MO → Prop
  | .lst ds => ∃ vs, ho = .lst vs ∧ DpAll K F vs ds
  | .dic kds => ∃ kvs, ho = .dK kvs ∧ Paired (fun (p : Key × V) (q : Key × D) => p.1 = q.1 ∧ Dp K F p.2 q.2) kvs kds
  | .dct kds => ∃ kvs, ho = .dT kvs ∧ Paired (fun (p : List Key × V) (q : List Key × D) => p.1 = q.1 ∧ Dp K F p.2 q.2) kvs kds
  | .raw vs => ∃ ws, ho = .lst ws ∧ ws = vs
theorem paired_mono {κ : Type} {K : PySem.W.Frag} {F F' : Hp} (e : Same F F') {kvs : List (κ × V)} {kds : List (κ × D)} (h : Paired (fun (p : κ × V) (q : κ × D) => p.1 = q.1 ∧ Dp K F p.2 q.2) kvs kds) :
    Paired (fun (p : κ × V) (q : κ × D) => p.1 = q.1 ∧ Dp K F' p.2 q.2) kvs kds := Paired.mapP h fun _ _ x => ⟨x.1, dp_mono e x.2⟩
theorem mrep_mono {K : PySem.W.Frag} {F F' : Hp} (e : Same F F') {ho : HO} : ∀ {o : MO}, MRep K F ho o → MRep K F' ho o
  | .lst _, ⟨vs, e1, h⟩ => ⟨vs, e1, dps_mono e h⟩
  | .dic _, ⟨vs, e1, h⟩ => ⟨vs, e1, paired_mono e h⟩
  | .dct _, ⟨vs, e1, h⟩ => ⟨vs, e1, paired_mono e h⟩
  | .raw _, ⟨vs, e1, h⟩ => ⟨vs, e1, h⟩
theorem mrep_tbl {K : PySem.W.Frag} {F : Hp} {ho : HO} {o : MO} (h : MRep K F ho o) (ps : Array Value) : ho ≠ .tbl ps := fun z => by
  subst z
  cases o <;> obtain ⟨_, e, _⟩ := h <;> cases e
theorem mrep_code {K : PySem.W.Frag} {F : Hp} {ho : HO} {o : MO} (h : MRep K F ho o) (c : Addr) (q : Str) : ho ≠ LamX.CodeO c q := fun z => by
  subst z
  cases o <;> obtain ⟨_, e, _⟩ := h <;> cases e
theorem mrep_fun {K : PySem.W.Frag} {F : Hp} {ho : HO} {o : MO} (h : MRep K F ho o) (c : Addr) (q : Obj) : ho ≠ FunO c q := fun z => by
  subst z
  cases o <;> obtain ⟨_, e, _⟩ := h <;> cases e
/-- an object of one's own is no table and no code -/
theorem tabs_mut {K : PySem.W.Frag} {T : List (Addr × Str)} {F H : Hp} {p : Addr} {ho ho' : HO} {o : MO} (t : LamX.Tabs T H) (e : H p = some ho) (m : MRep K F ho o) : LamX.Tabs T (upd H p ho') := fun x hx => by
  obtain ⟨ps, h1, h2, h3⟩ := t x hx
  refine ⟨ps, ?_, h2, fun pos cv hc => ?_⟩
  · rw [upd_ne (fun z => by rw [z, e] at h1; exact mrep_tbl m ps (Option.some.inj h1))]; exact h1
  · obtain ⟨c, e1, e2⟩ := h3 pos cv hc
    exact ⟨c, e1, by rw [upd_ne (fun z => by rw [z, e] at e2; exact mrep_code m _ _ (Option.some.inj e2))]; exact e2⟩
/-- what a call leaves as it was, but for what is lent to it -/
def StpX (T : List (Addr × Str)) (p : Addr) (H H' : Hp) : Prop := (∀ q o, q ≠ p → noT T H q = some o → H' q = some o) ∧ LamX.Tabs T H'
theorem StpX.back {K : PySem.W.Frag} {T : List (Addr × Str)} {F' H1 H' : Hp} {q : Addr} {ho ho' : HO} {o' : MO} (h : StpX T q H1 H') (e : H1 q = some ho) (e' : H' q = some ho') (m : MRep K F' ho' o') : Stp T H1 (upd H' q ho) := ⟨fun a o z => by
  by_cases ha : a = q
  · subst ha
    have := noT_sub a o z
    rw [e] at this
    cases this
    exact upd_same
  · rw [upd_ne ha]; exact h.1 a o ha z, tabs_mut h.2 e' m⟩
theorem mrep_mut {K : PySem.W.Frag} {F : Hp} {ho : HO} : ∀ {o : MO}, MRep K F ho o → Mut (some ho)
  | .lst _, ⟨_, e1, _⟩ => by subst e1; trivial
  | .dic _, ⟨_, e1, _⟩ => by subst e1; trivial
  | .dct _, ⟨_, e1, _⟩ => by subst e1; trivial
  | .raw _, ⟨_, e1, _⟩ => by subst e1; trivial

/-- an exception object that is held -/
def ExcHO (cls : Value) (d : Option Addr) (a : Addr) : HO := .ext fun h => ∃ (oe : Obj) (vs : Array Value), h.get? a = some oe ∧ Zc cls d oe ∧ oe.data = .fields vs
def ExcOk (cl : Cl) (F : Hp) (a : Addr) (x : Exn) : Prop := match x.row with
  | none => F a = some (ExcHO (.ref (cl x.c)) none a)
  | some r => ∃ d, F a = some (ExcHO (.ref (cl x.c)) (some d) a) ∧ F d = some (.xd [(Str.ofString "row", .int r)])
theorem excOk_mono {cl : Cl} {F F' : Hp} (e : Same F F') {a : Addr} {x : Exn} (h : ExcOk cl F a x) : ExcOk cl F' a x := by
  unfold ExcOk at h ⊢
  split
  · rename_i q; rw [q] at h; exact e _ _ h
  · rename_i r q; rw [q] at h
    obtain ⟨d, h1, h2⟩ := h
    exact ⟨d, e _ _ h1, e _ _ h2⟩

inductive Tag where
  | s (i : Nat)
  | t (k : Nat)
  deriving DecidableEq
/-- the entry: the heap that is kept, what of it is data, what is lent, what is locked -/
structure Ctx where
  H0 : Hp
  F0 : Hp
  lent : Nat → Option Addr
  lck : Nat → Option Addr
abbrev Own := Addr → Option Tag
section
variable (K : PySem.W.Frag) (cl : Cl) (C : Ctx) (F : Hp) (ρ : Own)
def OwnAt (H : Hp) (g : Tag) (p : Addr) (o : MO) : Prop := ∃ ho, H p = some ho ∧ MRep K F ho o ∧ F p = none ∧ ρ p = some g
/-- one of a nest: an own list, or a tuple of data and an own list -/
def NIt (v : V) (q : Addr) : Option D → Prop
  | none => v = .ref q
  | some d => ∃ t x, v = .ref t ∧ F t = some (.tup [x, .ref q]) ∧ Dp K F x d
def NIts (H0 H : Hp) (g : Tag) : List V → List Addr → List (Option D × List D) → Prop
  | [], [], [] => True
  | v :: vs, q :: qs, x :: xs => (NIt K F v q x.1 ∧ OwnAt K F ρ H g q (.lst x.2) ∧ H0 q = none) ∧ NIts H0 H g vs qs xs
  | _, _, _ => False
def NestAt (H0 H : Hp) (g : Tag) (p : Addr) (xs : List (Option D × List D)) : Prop := ∃ vs qs, OwnAt K F ρ H g p (.raw vs) ∧ H0 p = none ∧ (p :: qs).Nodup ∧ NIts K F ρ H0 H g vs qs xs
def SlotOk (H : Hp) (i : Nat) (v : Option V) : Slot → Prop
  | .un => True
  | .val d => ∃ x, v = some x ∧ Dp K F x d
  | .own o => ∃ p, v = some (.ref p) ∧ OwnAt K F ρ H (.s i) p o ∧ C.H0 p = none
  | .lnt o => ∃ p, v = some (.ref p) ∧ OwnAt K F ρ H (.s i) p o ∧ C.lent i = some p
  | .lck o => ∃ p ho, v = some (.ref p) ∧ OwnAt K F ρ H (.s i) p o ∧ C.lck i = some p ∧ C.H0 p = some ho ∧ ∀ j, C.lent j ≠ some p
  | .exc x => ∃ a, v = some (.ref a) ∧ ExcOk cl F a x
  | .fn ds => ∃ k, cl.cap = some k ∧ v = some (.ref k.f) ∧ C.H0 k.f = some (FunO k.f k.o) ∧ C.H0 k.c = some (LamX.CodeO k.c k.q) ∧ (∀ j, C.lent j ≠ some k.f ∧ C.lent j ≠ some k.c) ∧ match k.k with
    | .inl x => Dp K F x (.tuple ds)
    | .inr p => OwnAt K F ρ H (.s i) p (.lst ds) ∧ C.H0 p = none
  | .nst b xs => ∃ p, v = some (.ref p) ∧ NestAt K F ρ C.H0 H (.s i) p xs ∧ (b = true → C.lck i = some p)
def TmpOk (H : Hp) (k : Nat) (v : V) : Ret → Prop
  | .bor _ => True
  | .val d => Dp K F v d
  | .own o => ∃ p, v = .ref p ∧ OwnAt K F ρ H (.t k) p o ∧ C.H0 p = none
structure RelF (E : SEnv) (T : List (V × Ret)) (σ : St) (H : Hp) : Prop where
  len : E.length = σ.length
  f0 : Same C.F0 F
  fh : Same F H
  h0 : ∀ p o, C.H0 p = some o → (∀ i, C.lent i ≠ some p) → H p = some o
  hf : ∀ p o, C.H0 p = some o → F p = C.F0 p
  tb : TOk cl.T F H
  nt : ∀ p ∈ cl.T.map (·.1), C.H0 p = none
  sl : ∀ i v s, σ[i]? = some v → E[i]? = some s → SlotOk K cl C F ρ H i v s
  ln : ∀ i p, C.lent i = some p → ∃ o, E[i]? = some (.lnt o) ∧ σ[i]? = some (some (.ref p))
  tm : ∀ k v r, T[k]? = some (v, r) → TmpOk K C F ρ H k v r
end
def Rel (K : PySem.W.Frag) (cl : Cl) (C : Ctx) (E : SEnv) (T : List (V × Ret)) (σ : St) (H : Hp) : Prop := ∃ F ρ, RelF K cl C F ρ E T σ H
def Bor (σ : St) (v : V) : Ret → Prop
  | .bor i => σ[i]? = some (some v)
  | _ => True
def ExD (H0 : Hp) (d : Option Addr) (H : Hp) (x : Exn) : Prop := match x.row with
  | none => d = none
  | some r => ∃ dd, d = some dd ∧ H dd = some (.xd [(Str.ofString "row", .int r)]) ∧ H0 dd = none
theorem ExD.weak {A B : Hp} {d : Option Addr} {H : Hp} {x : Exn} (h : ExD A d H x) (hn : ∀ p, A p = none → B p = none) : ExD B d H x := by
  unfold ExD at h ⊢
  split
  · rename_i e; rw [e] at h; exact h
  · rename_i r e; rw [e] at h
    obtain ⟨dd, h1, h2, h3⟩ := h
    exact ⟨dd, h1, h2, hn _ h3⟩

theorem ExD.noT {T : List (Addr × Str)} {A : Hp} {d : Option Addr} {H : Hp} {x : Exn} (h : ExD (MP.noT T A) d H x) (t : LamX.Tabs T H) : ExD A d H x := by
  unfold ExD at h ⊢
  split
  · rename_i e; rw [e] at h; exact h
  · rename_i r e; rw [e] at h
    obtain ⟨dd, h1, h2, h3⟩ := h
    exact ⟨dd, h1, h2, noT_none t h3 h2 fun _ z => by cases z⟩
section
variable {K : PySem.W.Frag} {cl : Cl} {C : Ctx} {F F' : Hp} {ρ ρ' : Own} {E E' : SEnv} {T T' : List (V × Ret)} {σ : St} {H H' : Hp} {i j k : Nat} {p : Addr} {v : V} {r : Ret} {o : MO} {d : D}

theorem RelF.rel (R : RelF K cl C F ρ E T σ H) : Rel K cl C E T σ H := ⟨F, ρ, R⟩
/-- dropping the last temporaries -/
theorem RelF.drop (R : RelF K cl C F ρ E (T ++ T') σ H) : RelF K cl C F ρ E T σ H :=
  { len := R.len, f0 := R.f0, fh := R.fh, h0 := R.h0, hf := R.hf, tb := R.tb, nt := R.nt, sl := R.sl, ln := R.ln, tm := fun k v r e => R.tm k v r (by
      have hk : k < T.length := (List.getElem?_eq_some_iff.mp e).1
      rw [List.getElem?_append_left hk]; exact e) }
theorem Rel.drop (R : Rel K cl C E (T ++ T') σ H) : Rel K cl C E T σ H := let ⟨_, _, r⟩ := R; r.drop.rel

/-- a place that is not tracked is nobody's -/
theorem RelF.new_F (R : RelF K cl C F ρ E T σ H) (hn : H p = none) : F p = none := by
  cases q : F p with
  | none => rfl
  | some u => rw [R.fh p u q] at hn; cases hn
theorem RelF.new_H0 (R : RelF K cl C F ρ E T σ H) (hn : H p = none) : C.H0 p = none := by
  cases q : C.H0 p with
  | none => rfl
  | some u =>
    by_cases hl : ∀ i, C.lent i ≠ some p
    · rw [R.h0 p u q hl] at hn; cases hn
    · obtain ⟨i, hi⟩ := Classical.not_forall.mp hl
      have hi' : C.lent i = some p := Classical.not_not.mp hi
      obtain ⟨o, h1, h2⟩ := R.ln i p hi'
      obtain ⟨p', e, ⟨ho, hh, _⟩, _⟩ := R.sl i _ _ h2 h1
      cases e
      rw [hh] at hn; cases hn
theorem OwnAt.fn {g : Tag} {q : Addr} (h : OwnAt K F ρ H g q o) : F q = none := let ⟨_, _, _, f, _⟩ := h; f
theorem OwnAt.tag {g : Tag} {q : Addr} (h : OwnAt K F ρ H g q o) : ρ q = some g := let ⟨_, _, _, _, f⟩ := h; f
theorem OwnAt.apart {g g' : Tag} {q q' : Addr} {o' : MO} (h : OwnAt K F ρ H g q o) (h' : OwnAt K F ρ H g' q' o') (n : g ≠ g') : q ≠ q' := fun e => by
  subst e
  exact n (Option.some.inj (h.tag.symm.trans h'.tag))
theorem OwnAt.ne {g : Tag} {q : Addr} (h : OwnAt K F ρ H g q o) (hn : H p = none) : q ≠ p := by
  rintro rfl
  obtain ⟨ho, e, _⟩ := h
  rw [hn] at e; cases e
theorem OwnAt.grow {g : Tag} {q : Addr} (h : OwnAt K F ρ H g q o) (e : Same F F') (hH : ∀ ho, H q = some ho → H' q = some ho) (hF : F' q = none) (hρ : ρ' q = ρ q) : OwnAt K F' ρ' H' g q o := by
  obtain ⟨ho, e1, m, f, t⟩ := h
  exact ⟨ho, hH _ e1, mrep_mono e m, hF, by rw [hρ]; exact t⟩

theorem NIt.mono (e : Same F F') {v : V} {q : Addr} : ∀ {od : Option D}, NIt K F v q od → NIt K F' v q od
  | none, h => h
  | some _, ⟨t, x, h1, h2, h3⟩ => ⟨t, x, h1, e _ _ h2, dp_mono e h3⟩
theorem NIts.grow {g : Tag} {H0 : Hp} (e : Same F F') (hq : ∀ q o, OwnAt K F ρ H g q o → OwnAt K F' ρ' H' g q o) : ∀ {vs : List V} {qs : List Addr} {xs : List (Option D × List D)}, NIts K F ρ H0 H g vs qs xs → NIts K F' ρ' H0 H' g vs qs xs
  | [], [], [], _ => trivial
  | _ :: _, _ :: _, _ :: _, ⟨⟨h1, h2, h3⟩, h4⟩ => ⟨⟨h1.mono e, hq _ _ h2, h3⟩, NIts.grow e hq h4⟩
theorem NestAt.grow {g : Tag} {q : Addr} {xs : List (Option D × List D)} {H0 : Hp} (h : NestAt K F ρ H0 H g q xs) (e : Same F F') (hq : ∀ q o, OwnAt K F ρ H g q o → OwnAt K F' ρ' H' g q o) : NestAt K F' ρ' H0 H' g q xs := by
  obtain ⟨vs, qs, h1, h2, h3, h4⟩ := h
  exact ⟨vs, qs, hq _ _ h1, h2, h3, h4.grow e hq⟩
theorem NIts.chg {H0 H0' : Hp} {g : Tag} (e : Same F F') (hq : ∀ q o, OwnAt K F ρ H g q o → H0 q = none → OwnAt K F' ρ' H' g q o ∧ H0' q = none) : ∀ {vs : List V} {qs : List Addr} {xs : List (Option D × List D)}, NIts K F ρ H0 H g vs qs xs → NIts K F' ρ' H0' H' g vs qs xs
  | [], [], [], _ => trivial
  | _ :: _, _ :: _, _ :: _, ⟨⟨h1, h2, h3⟩, h4⟩ => ⟨⟨h1.mono e, (hq _ _ h2 h3).1, (hq _ _ h2 h3).2⟩, NIts.chg e hq h4⟩
theorem NestAt.chg {H0 H0' : Hp} {g : Tag} {q : Addr} {xs : List (Option D × List D)} (h : NestAt K F ρ H0 H g q xs) (e : Same F F') (hq : ∀ q o, OwnAt K F ρ H g q o → H0 q = none → OwnAt K F' ρ' H' g q o ∧ H0' q = none) : NestAt K F' ρ' H0' H' g q xs := by
  obtain ⟨vs, qs, h1, h2, h3, h4⟩ := h
  exact ⟨vs, qs, (hq _ _ h1 h2).1, (hq _ _ h1 h2).2, h3, h4.chg e hq⟩
/-- all slots and temporaries pass to a larger state -/
theorem SlotOk.grow {s : Slot} {w : Option V} (h : SlotOk K cl C F ρ H i w s) (e : Same F F') (hq : ∀ q o, OwnAt K F ρ H (.s i) q o → OwnAt K F' ρ' H' (.s i) q o) : SlotOk K cl C F' ρ' H' i w s := by
  cases s with
  | un => trivial
  | val d => obtain ⟨x, e1, h1⟩ := h; exact ⟨x, e1, dp_mono e h1⟩
  | own o => obtain ⟨p, e1, h1, h2⟩ := h; exact ⟨p, e1, hq _ _ h1, h2⟩
  | lnt o => obtain ⟨p, e1, h1, h2⟩ := h; exact ⟨p, e1, hq _ _ h1, h2⟩
  | lck o => obtain ⟨p, ho, e1, h1, h2⟩ := h; exact ⟨p, ho, e1, hq _ _ h1, h2⟩
  | exc x => obtain ⟨a, e1, h1⟩ := h; exact ⟨a, e1, excOk_mono e h1⟩
  | fn ds =>
    obtain ⟨k, e1, e2, e3, e4, e5, h1⟩ := h
    refine ⟨k, e1, e2, e3, e4, e5, ?_⟩
    split at h1
    · exact dp_mono e h1
    · exact ⟨hq _ _ h1.1, h1.2⟩
  | nst b xs => obtain ⟨p, e1, h1, h2⟩ := h; exact ⟨p, e1, h1.grow e hq, h2⟩
theorem TmpOk.grow (h : TmpOk K C F ρ H k v r) (e : Same F F') (hq : ∀ q o, OwnAt K F ρ H (.t k) q o → OwnAt K F' ρ' H' (.t k) q o) : TmpOk K C F' ρ' H' k v r := by
  cases r with
  | bor i => trivial
  | val d => exact dp_mono e h
  | own o => obtain ⟨p, e1, h1, h2⟩ := h; exact ⟨p, e1, hq _ _ h1, h2⟩

/-- a temporary is pushed whose value is data already -/
theorem RelF.push_val (R : RelF K cl C F ρ E T σ H) (h : Dp K F v d) : RelF K cl C F ρ E (T ++ [(v, .val d)]) σ H where
  len := R.len
  f0 := R.f0
  fh := R.fh
  h0 := R.h0
  hf := R.hf
  tb := R.tb
  nt := R.nt
  sl := R.sl
  ln := R.ln
  tm := fun k w r e => by
    rcases at_snoc e with e | ⟨_, e⟩
    · exact R.tm k w r e
    · cases e; exact h
theorem RelF.push_bor (R : RelF K cl C F ρ E T σ H) : RelF K cl C F ρ E (T ++ [(v, .bor i)]) σ H where
  len := R.len
  f0 := R.f0
  fh := R.fh
  h0 := R.h0
  hf := R.hf
  tb := R.tb
  nt := R.nt
  sl := R.sl
  ln := R.ln
  tm := fun k w r e => by
    rcases at_snoc e with e | ⟨_, e⟩
    · exact R.tm k w r e
    · cases e; trivial
/-- a new object of one's own is pushed -/
theorem RelF.push_own (R : RelF K cl C F ρ E T σ H) (hn : H p = none) {ho : HO} (m : MRep K F ho o) :
    RelF K cl C F (fun q => if q = p then some (.t T.length) else ρ q) E (T ++ [(.ref p, .own o)]) σ (upd H p ho) := by
  have hF := R.new_F hn
  have h0 := R.new_H0 hn
  have hs : Same H (upd H p ho) := fun b x e => by rw [upd_ne (ne_of_none e hn)]; exact e
  have hq : ∀ g q o, OwnAt K F ρ H g q o → OwnAt K F (fun q => if q = p then some (.t T.length) else ρ q) (upd H p ho) g q o := fun g q o h =>
    h.grow (L2.Same.refl F) (fun u e => hs _ _ e) h.fn (if_neg (h.ne hn))
  refine { len := R.len, f0 := R.f0, fh := L2.Same.trans R.fh hs, h0 := fun q u e l => hs _ _ (R.h0 q u e l), hf := R.hf, tb := ⟨R.tb.1.ext hs, R.tb.2⟩, nt := R.nt, sl := fun i v s e1 e2 => (R.sl i v s e1 e2).grow (L2.Same.refl F) (hq _), ln := R.ln, tm := fun k w r e => ?_ }
  rcases at_snoc e with e | ⟨hk1, e⟩
  · exact (R.tm k w r e).grow (L2.Same.refl F) (hq _)
  · cases e
    subst hk1
    exact ⟨p, rfl, ⟨ho, upd_same, m, hF, if_pos rfl⟩, h0⟩
/-- new data that is laid -/
theorem RelF.lay (R : RelF K cl C F ρ E T σ H) (hn : H p = none) (ho : HO) : RelF K cl C (upd F p ho) ρ E T σ (upd H p ho) ∧ Same F (upd F p ho) := by
  have hF := R.new_F hn
  have h0 := R.new_H0 hn
  have hs : Same H (upd H p ho) := fun b x e => by rw [upd_ne (ne_of_none e hn)]; exact e
  have fs : Same F (upd F p ho) := fun b x e => by rw [upd_ne (ne_of_none e hF)]; exact e
  have hq : ∀ g q o, OwnAt K F ρ H g q o → OwnAt K (upd F p ho) ρ (upd H p ho) g q o := fun g q o h =>
    h.grow fs (fun u e => hs _ _ e) (by rw [upd_ne (h.ne hn)]; exact h.fn) rfl
  refine ⟨{ len := R.len, f0 := L2.Same.trans R.f0 fs, fh := fun b x e => ?_, h0 := fun q u e l => hs _ _ (R.h0 q u e l), tb := ⟨R.tb.1.ext hs, R.tb.put (R.tb.new hn)⟩, nt := R.nt, hf := fun q u e => ?_, sl := fun i v s e1 e2 => (R.sl i v s e1 e2).grow fs (hq _), ln := R.ln, tm := fun k w r e => (R.tm k w r e).grow fs (hq _) }, fs⟩
  · by_cases hb : b = p
    · subst hb; rw [upd_same] at e; cases e; exact upd_same
    · rw [upd_ne hb] at e; rw [upd_ne hb]; exact R.fh b x e
  · have hqp : q ≠ p := fun z => by subst z; rw [h0] at e; cases e
    rw [upd_ne hqp]; exact R.hf q u e

/-! ### data of an operand -/
def Slot.dat : Slot → Option D
  | .val d => some d
  | .own (.lst ds) => some (.list ds)
  | .lnt (.lst ds) => some (.list ds)
  | .lck (.lst ds) => some (.list ds)
  | _ => none
def dat (E : SEnv) : Ret → Option D
  | .val d => some d
  | .own (.lst ds) => some (.list ds)
  | .own _ => none
  | .bor i => (E[i]?).bind Slot.dat
/-- data whose outermost list may be one's own -/
def DpT (K : PySem.W.Frag) (F H : Hp) (v : V) : D → Prop
  | .list ds => ∃ a xs, v = .ref a ∧ (SqL K F a xs ∨ H a = some (.lst xs)) ∧ DpAll K F xs ds
  | d => Dp K F v d
theorem sql_or (e : Same F H) {a : Addr} {xs : List V} (h : SqL K F a xs ∨ H a = some (.lst xs)) : SqL K H a xs := by
  rcases h with h | h
  · exact L2.Same.seq e h
  · exact SqL.of h
theorem dpt_of (h : Dp K F v d) (e : Same F H) : DpT K F H v d := by
  cases h with
  | lst h hs => exact ⟨_, _, rfl, .inl h, hs⟩
  | non => exact .non
  | bl b => exact .bl b
  | int i => exact .int i
  | str x => exact .str x
  | tup h hs => exact .tup h hs
theorem dp_of (h : DpT K F H v d) (e : Same F H) : Dp K H v d := by
  cases d with
  | list ds => obtain ⟨a, xs, rfl, h1, h2⟩ := h; exact .lst (sql_or e h1) (dps_mono e h2)
  | none => exact dp_mono e (show Dp K F v _ from h)
  | bool b => exact dp_mono e (show Dp K F v _ from h)
  | int i => exact dp_mono e (show Dp K F v _ from h)
  | str x => exact dp_mono e (show Dp K F v _ from h)
  | tuple ds => exact dp_mono e (show Dp K F v _ from h)
  | dict ds => exact dp_mono e (show Dp K F v _ from h)
theorem OwnAt.dpt {g : Tag} {q : Addr} {ds : List D} (h : OwnAt K F ρ H g q (.lst ds)) : DpT K F H (.ref q) (.list ds) := by
  obtain ⟨ho, e, ⟨vs, rfl, hd⟩, _, _⟩ := h
  exact ⟨q, vs, rfl, .inr e, hd⟩
theorem SlotOk.dpt {s : Slot} (h : SlotOk K cl C F ρ H i (some v) s) (e : Same F H) (hd : s.dat = some d) : DpT K F H v d := by
  cases s with
  | un => cases hd
  | exc x => cases hd
  | fn ds => cases hd
  | nst b xs => cases hd
  | val d' => cases hd; obtain ⟨x, e1, h1⟩ := h; cases e1; exact dpt_of h1 e
  | own o => cases o with
    | lst ds => cases hd; obtain ⟨p, e1, h1, _⟩ := h; cases e1; exact h1.dpt
    | dic _ => cases hd
    | dct _ => cases hd
    | raw _ => cases hd
  | lnt o => cases o with
    | lst ds => cases hd; obtain ⟨p, e1, h1, _⟩ := h; cases e1; exact h1.dpt
    | dic _ => cases hd
    | dct _ => cases hd
    | raw _ => cases hd
  | lck o => cases o with
    | lst ds => cases hd; obtain ⟨p, ho, e1, h1, _⟩ := h; cases e1; exact h1.dpt
    | dic _ => cases hd
    | dct _ => cases hd
    | raw _ => cases hd
theorem RelF.dat (R : RelF K cl C F ρ E T σ H) (e : T[k]? = some (v, r)) (b : Bor σ v r) (hd : dat E r = some d) : DpT K F H v d := by
  cases r with
  | val d' => cases hd; exact dpt_of (R.tm k v _ e) R.fh
  | own o => cases o with
    | lst ds => cases hd; obtain ⟨p, rfl, h1, _⟩ := R.tm k v _ e; exact h1.dpt
    | dic _ => cases hd
    | dct _ => cases hd
    | raw _ => cases hd
  | bor i =>
    have hd' : (E[i]?).bind Slot.dat = some d := hd
    obtain ⟨s, hs, hd2⟩ := Option.bind_eq_some_iff.mp hd'
    exact (R.sl i _ s b hs).dpt R.fh hd2

/-! ### an own list becomes data -/
theorem RelF.freeze_core {g : Tag} {ds : List D} (R : RelF K cl C F ρ E T σ H) (h : OwnAt K F ρ H g p (.lst ds)) (hp : C.H0 p = none) (hl : E'.length = E.length)
    (hE : ∀ i s, E'[i]? = some s → (E[i]? = some s ∧ Tag.s i ≠ g) ∨ (σ[i]? = some (some (.ref p)) ∧ s = .val (.list ds)))
    (hn : ∀ (i : Nat) (o : MO), E[i]? = some (Slot.lnt o) → E'[i]? = some (Slot.lnt o))
    (hT : ∀ k v r, T'[k]? = some (v, r) → (T[k]? = some (v, r) ∧ Tag.t k ≠ g) ∨ (v = .ref p ∧ r = .val (.list ds))) :
    ∃ F', Same F F' ∧ RelF K cl C F' ρ E' T' σ H ∧ Dp K F' (.ref p) (.list ds) := by
  obtain ⟨ho, e, ⟨vs, rfl, hd⟩, hf, ht⟩ := id h
  have fs : Same F (upd F p (.lst vs)) := fun b x e => by rw [upd_ne (ne_of_none e hf)]; exact e
  have hq : ∀ g', g' ≠ g → ∀ q o, OwnAt K F ρ H g' q o → OwnAt K (upd F p (.lst vs)) ρ H g' q o := fun g' n q o h' =>
    h'.grow fs (fun _ e => e) (by rw [upd_ne (h'.apart h n)]; exact h'.fn) rfl
  have hdp : Dp K (upd F p (.lst vs)) (.ref p) (.list ds) := .lst (SqL.of upd_same) (dps_mono fs hd)
  refine ⟨upd F p (.lst vs), fs, ?_, hdp⟩
  refine { len := hl.trans R.len, f0 := L2.Same.trans R.f0 fs, fh := fun b x e' => ?_, h0 := R.h0, tb := ⟨R.tb.1, R.tb.put (noT_no R.tb.1 e fun _ z => by cases z)⟩, nt := R.nt, hf := fun q u e' => ?_, sl := fun i w s e1 e2 => ?_, ln := fun i q e' => ?_, tm := fun k w r e' => ?_ }
  · by_cases hb : b = p
    · subst hb; rw [upd_same] at e'; cases e'; exact e
    · rw [upd_ne hb] at e'; exact R.fh b x e'
  · have hqp : q ≠ p := fun z => by subst z; rw [hp] at e'; cases e'
    rw [upd_ne hqp]; exact R.hf q u e'
  · rcases hE i s e2 with ⟨e3, n⟩ | ⟨e3, rfl⟩
    · exact (R.sl i w s e1 e3).grow fs (hq _ n)
    · rw [e3] at e1; cases e1; exact ⟨_, rfl, hdp⟩
  · obtain ⟨o, h1, h2⟩ := R.ln i q e'
    exact ⟨o, hn i o h1, h2⟩
  · rcases hT k w r e' with ⟨e3, n⟩ | ⟨rfl, rfl⟩
    · exact (R.tm k w r e3).grow fs (hq _ n)
    · exact hdp
theorem set_cases {α : Type} {l : List α} {i j : Nat} {x y : α} (e : (l.set i x)[j]? = some y) : (j = i ∧ y = x ∧ i < l.length) ∨ (j ≠ i ∧ l[j]? = some y) := by
  by_cases h : j = i
  · subst h
    by_cases hl : j < l.length
    · rw [List.getElem?_set_self hl] at e; cases e; exact .inl ⟨rfl, rfl, hl⟩
    · rw [List.getElem?_eq_none (by simpa using hl)] at e; cases e
  · rw [List.getElem?_set_ne (Ne.symm h)] at e; exact .inr ⟨h, e⟩
theorem slot_there (R : RelF K cl C F ρ E T σ H) {s : Slot} (e : E[i]? = some s) : ∃ w, σ[i]? = some w := by
  have h := (List.getElem?_eq_some_iff.mp e).1
  rw [R.len] at h
  exact ⟨σ[i], List.getElem?_eq_getElem h⟩
theorem RelF.freeze_slot {ds : List D} (R : RelF K cl C F ρ E T σ H) (e : E[i]? = some (.own (.lst ds))) (b : σ[i]? = some (some v)) :
    ∃ F', Same F F' ∧ RelF K cl C F' ρ (E.set i (.val (.list ds))) T σ H ∧ Dp K F' v (.list ds) := by
  obtain ⟨p, e1, h1, h2⟩ := R.sl i _ _ b e
  cases e1
  refine R.freeze_core h1 h2 (by simp) (fun j s ej => ?_) (fun j o ej => ?_) (fun k w r ek => .inl ⟨ek, fun z => by cases z⟩)
  · rcases set_cases ej with ⟨rfl, rfl, _⟩ | ⟨n, ej⟩
    · exact .inr ⟨b, rfl⟩
    · exact .inl ⟨ej, fun z => by cases z; exact n rfl⟩
  · have n : j ≠ i := fun z => by subst z; rw [e] at ej; cases ej
    rw [List.getElem?_set_ne (Ne.symm n)]; exact ej
/-- a value is kept by what takes it: its list is no longer one's own -/
def take (E : SEnv) : Ret → Option (D × SEnv)
  | .val d => some (d, E)
  | .own (.lst ds) => some (.list ds, E)
  | .own _ => none
  | .bor i => match E[i]? with
    | some (.val d) => some (d, E)
    | some (.own (.lst ds)) => some (.list ds, E.set i (.val (.list ds)))
    | _ => none
theorem RelF.take {T2 : List (V × Ret)} (R : RelF K cl C F ρ E (T ++ (v, r) :: T2) σ H) (b : Bor σ v r) (h : take E r = some (d, E')) :
    ∃ F', Same F F' ∧ RelF K cl C F' ρ E' (T ++ (v, .val d) :: T2) σ H ∧ Dp K F' v d := by
  have at0 : (T ++ (v, r) :: T2)[T.length]? = some (v, r) := by simp
  have atk : ∀ {r' : Ret} {k : Nat} {w : V} {s : Ret}, (T ++ (v, r') :: T2)[k]? = some (w, s) → (k ≠ T.length ∧ (T ++ (v, r) :: T2)[k]? = some (w, s)) ∨ (k = T.length ∧ w = v ∧ s = r') := fun {r' k w s} e => by
    by_cases hk : k = T.length
    · subst hk; simp at e; exact .inr ⟨rfl, e.1.symm, e.2.symm⟩
    · refine .inl ⟨hk, ?_⟩
      rcases Nat.lt_or_ge k T.length with h1 | h1
      · rw [List.getElem?_append_left h1] at e ⊢; exact e
      · rw [List.getElem?_append_right h1] at e ⊢
        obtain ⟨m, hm⟩ : ∃ m, k - T.length = m + 1 := ⟨k - T.length - 1, by omega⟩
        rw [hm] at e ⊢; exact e
  have same : ∀ {F' : Hp} {d : D}, Dp K F' v d → RelF K cl C F' ρ E' (T ++ (v, r) :: T2) σ H → RelF K cl C F' ρ E' (T ++ (v, .val d) :: T2) σ H := fun {F' d} hd R' =>
    { len := R'.len, f0 := R'.f0, fh := R'.fh, h0 := R'.h0, hf := R'.hf, tb := R'.tb, nt := R'.nt, sl := R'.sl, ln := R'.ln, tm := fun k w s e => by
        rcases atk e with ⟨_, e⟩ | ⟨_, rfl, rfl⟩
        · exact R'.tm k w s e
        · exact hd }
  cases r with
  | val d' => cases h; exact ⟨F, L2.Same.refl F, R, R.tm _ _ _ at0⟩
  | own o => cases o with
    | dic _ => cases h
    | dct _ => cases h
    | raw _ => cases h
    | lst ds =>
      cases h
      obtain ⟨p, rfl, h1, h2⟩ := R.tm _ _ _ at0
      refine R.freeze_core h1 h2 rfl (fun j s ej => .inl ⟨ej, fun z => by cases z⟩) (fun _ _ z => z) (fun k w s e => ?_)
      rcases atk e with ⟨n, e⟩ | ⟨_, rfl, rfl⟩
      · exact .inl ⟨e, fun z => by cases z; exact n rfl⟩
      · exact .inr ⟨rfl, rfl⟩
  | bor i =>
    have b' : σ[i]? = some (some v) := b
    unfold MP.take at h
    dsimp only at h
    split at h
    · rename_i d' e
      cases h
      obtain ⟨x, e1, h1⟩ := R.sl i _ _ b' e
      cases e1
      exact ⟨F, L2.Same.refl F, same h1 R, h1⟩
    · rename_i ds e
      cases h
      obtain ⟨F', f1, R', h1⟩ := R.freeze_slot e b'
      exact ⟨F', f1, same h1 R', h1⟩
    · cases h
def takes (E : SEnv) : List Ret → Option (List D × SEnv)
  | [] => some ([], E)
  | r :: rs => match take E r with
    | some (d, E1) => (match takes E1 rs with
      | some (ds, E2) => some (d :: ds, E2)
      | none => none)
    | none => none
/-- the temporaries of an argument list -/
def Bors (σ : St) : List V → List Ret → Prop
  | [], [] => True
  | v :: vs, r :: rs => Bor σ v r ∧ Bors σ vs rs
  | _, _ => False
theorem bors_len {σ : St} : ∀ {vs : List V} {rs : List Ret}, Bors σ vs rs → vs.length = rs.length
  | [], [], _ => rfl
  | _ :: _, _ :: _, h => congrArg (· + 1) (bors_len h.2)
theorem RelF.takes : ∀ {rs : List Ret} {vs : List V} {T : List (V × Ret)} {F : Hp} {E : SEnv} {ds : List D} {E' : SEnv}, RelF K cl C F ρ E (T ++ vs.zip rs) σ H → Bors σ vs rs → MP.takes E rs = some (ds, E') →
    ∃ F', Same F F' ∧ RelF K cl C F' ρ E' T σ H ∧ DpAll K F' vs ds
  | [], [], T, F, E, ds, E', R, _, h => by cases h; exact ⟨F, L2.Same.refl F, by simpa using R, .nil⟩
  | r :: rs, v :: vs, T, F, E, ds, E', R, b, h => by
    unfold MP.takes at h
    split at h
    · rename_i d E1 e1
      split at h
      · rename_i ds2 E2 e2
        cases h
        obtain ⟨F1, f1, R1, h1⟩ := RelF.take (T := T) (T2 := vs.zip rs) (r := r) (v := v) R b.1 e1
        have R1' : RelF K cl C F1 ρ E1 ((T ++ [(v, .val d)]) ++ vs.zip rs) σ H := by rw [List.append_assoc]; exact R1
        obtain ⟨F2, f2, R2, h2⟩ := RelF.takes R1' b.2 e2
        have h3 : Dp K F2 v d := R2.tm T.length v (.val d) (by simp)
        exact ⟨F2, L2.Same.trans f1 f2, R2.drop, .cons h3 h2⟩
      · cases h
    · cases h

/-! ### a name is stored -/
def Slot.free : Slot → Bool
  | .lnt _ => false
  | .lck _ => false
  | .fn _ => false
  | _ => true
def mStore (i : Nat) (r : Ret) (E : SEnv) : Option SEnv := match E[i]? with
  | none => none
  | some s => if s.free then (match r with
    | .own o => some (E.set i (.own o))
    | .val d => some (E.set i (.val d))
    | .bor j => (match E[j]? with
      | some (.val d) => some (E.set i (.val d))
      | some (.exc x) => some (E.set i (.exc x))
      | some (.own (.lst ds)) => some ((E.set j (.val (.list ds))).set i (.val (.list ds)))
      | _ => none)) else none
theorem RelF.put_slot {s s' : Slot} (R : RelF K cl C F ρ E T σ H) (e : E[i]? = some s) (hs : s.free = true) (hF : Same F F') (hH : Same F' H) (h0 : ∀ p o, C.H0 p = some o → F' p = C.F0 p) (ht : ∀ p ∈ cl.T.map (·.1), F' p = none)
    (hq : ∀ g, g ≠ Tag.s i → ∀ q o, OwnAt K F ρ H g q o → (∃ k, g = .t k ∧ T.length ≤ k) ∨ OwnAt K F' ρ' H g q o) (new : SlotOk K cl C F' ρ' H i (some v) s') : RelF K cl C F' ρ' (E.set i s') T (σ.set i (some v)) H where
  len := by simpa using R.len
  f0 := L2.Same.trans R.f0 hF
  fh := hH
  h0 := R.h0
  hf := h0
  tb := ⟨R.tb.1, ht⟩
  nt := R.nt
  sl := fun j w u e1 e2 => by
    rcases set_cases e2 with ⟨rfl, rfl, _⟩ | ⟨n, e2⟩
    · rcases set_cases e1 with ⟨_, rfl, _⟩ | ⟨n, _⟩
      · exact new
      · exact absurd rfl n
    · rw [List.getElem?_set_ne (Ne.symm n)] at e1
      exact (R.sl j w u e1 e2).grow hF fun q o h => by
        rcases hq (.s j) (fun z => by cases z; exact n rfl) q o h with ⟨k, z, _⟩ | h
        · cases z
        · exact h
  ln := fun j p e1 => by
    obtain ⟨o, h1, h2⟩ := R.ln j p e1
    have n : j ≠ i := fun z => by subst z; rw [e] at h1; cases h1; cases hs
    exact ⟨o, by rw [List.getElem?_set_ne (Ne.symm n)]; exact h1, by rw [List.getElem?_set_ne (Ne.symm n)]; exact h2⟩
  tm := fun k w r e1 => (R.tm k w r e1).grow hF fun q o h => by
    rcases hq (.t k) (fun z => by cases z) q o h with ⟨k', z, z2⟩ | h
    · cases z
      have := (List.getElem?_eq_some_iff.mp e1).1
      omega
    · exact h
theorem RelF.store (R : RelF K cl C F ρ E (T ++ [(v, r)]) σ H) (b : Bor σ v r) (h : mStore i r E = some E') : ∃ F' ρ', Same F F' ∧ RelF K cl C F' ρ' E' T (σ.set i (some v)) H := by
  have at0 : (T ++ [(v, r)])[T.length]? = some (v, r) := by simp
  unfold mStore at h
  split at h
  · cases h
  · rename_i s e
    split at h
    · rename_i hs
      have keep : ∀ g, g ≠ Tag.s i → ∀ q o, OwnAt K F ρ H g q o → (∃ k, g = .t k ∧ T.length ≤ k) ∨ OwnAt K F ρ H g q o := fun _ _ _ _ h => .inr h
      split at h
      · rename_i o
        cases h
        obtain ⟨p, rfl, h1, h2⟩ := R.tm _ _ _ at0
        refine ⟨F, fun q => if q = p then some (.s i) else ρ q, L2.Same.refl F, R.drop.put_slot e hs (L2.Same.refl F) R.fh R.hf R.tb.2 (fun g n q o' h' => ?_) ⟨p, rfl, ?_, h2⟩⟩
        · by_cases hg : g = .t T.length
          · exact .inl ⟨_, hg, Nat.le_refl _⟩
          · exact .inr (h'.grow (L2.Same.refl F) (fun _ e => e) h'.fn (if_neg (h'.apart h1 hg)))
        · obtain ⟨ho, e1, m, f, _⟩ := h1
          exact ⟨ho, e1, m, f, if_pos rfl⟩
      · rename_i d
        cases h
        exact ⟨F, ρ, L2.Same.refl F, R.drop.put_slot e hs (L2.Same.refl F) R.fh R.hf R.tb.2 keep ⟨v, rfl, R.tm _ _ _ at0⟩⟩
      · rename_i j
        have b' : σ[j]? = some (some v) := b
        split at h
        · rename_i d e2
          cases h
          obtain ⟨x, e3, h3⟩ := R.sl j _ _ b' e2
          cases e3
          exact ⟨F, ρ, L2.Same.refl F, R.drop.put_slot e hs (L2.Same.refl F) R.fh R.hf R.tb.2 keep ⟨v, rfl, h3⟩⟩
        · rename_i x e2
          cases h
          obtain ⟨a, e3, h3⟩ := R.sl j _ _ b' e2
          cases e3
          exact ⟨F, ρ, L2.Same.refl F, R.drop.put_slot e hs (L2.Same.refl F) R.fh R.hf R.tb.2 keep ⟨_, rfl, h3⟩⟩
        · rename_i ds e2
          cases h
          obtain ⟨F', f1, R', h1⟩ := R.freeze_slot e2 b'
          by_cases hij : i = j
          · subst hij
            have hlt := (List.getElem?_eq_some_iff.mp e2).1
            exact ⟨F', ρ, f1, R'.drop.put_slot (s := .val (.list ds)) (by rw [List.getElem?_set_self hlt]) rfl (L2.Same.refl F') R'.fh R'.hf R'.tb.2 (fun _ _ _ _ h => .inr h) ⟨v, rfl, h1⟩⟩
          · exact ⟨F', ρ, f1, R'.drop.put_slot (by rw [List.getElem?_set_ne (Ne.symm hij)]; exact e) hs (L2.Same.refl F') R'.fh R'.hf R'.tb.2 (fun _ _ _ _ h => .inr h) ⟨v, rfl, h1⟩⟩
        · cases h
    · cases h

/-! ### an own object is changed -/
theorem RelF.mut_own {o' : MO} {ho' : HO} (R : RelF K cl C F ρ E T σ H) (e : E[i]? = some (.own o)) (b : σ[i]? = some (some (.ref p))) (m : MRep K F ho' o') : RelF K cl C F ρ (E.set i (.own o')) T σ (upd H p ho') := by
  obtain ⟨p', e1, h1, h2⟩ := R.sl i _ _ b e
  cases e1
  have hq : ∀ g, g ≠ Tag.s i → ∀ q o, OwnAt K F ρ H g q o → OwnAt K F ρ (upd H p ho') g q o := fun g n q o h' =>
    h'.grow (L2.Same.refl F) (fun u e => by rw [upd_ne (h'.apart h1 n)]; exact e) h'.fn rfl
  refine { len := by simpa using R.len, f0 := R.f0, fh := fun q u e' => ?_, h0 := fun q u e' l => ?_, hf := R.hf, tb := ⟨let ⟨_, e0, m0, _⟩ := h1; tabs_mut R.tb.1 e0 m0, R.tb.2⟩, nt := R.nt, sl := fun j w s e1 e2 => ?_, ln := fun j q e' => ?_, tm := fun k w r e' => (R.tm k w r e').grow (L2.Same.refl F) (hq _ fun z => by cases z) }
  · rw [upd_ne (ne_of_none e' h1.fn)]; exact R.fh q u e'
  · rw [upd_ne (ne_of_none e' h2)]; exact R.h0 q u e' l
  · rcases set_cases e2 with ⟨rfl, rfl, _⟩ | ⟨n, e2⟩
    · rw [b] at e1; cases e1
      exact ⟨p, rfl, ⟨ho', upd_same, m, h1.fn, h1.tag⟩, h2⟩
    · exact (R.sl j w s e1 e2).grow (L2.Same.refl F) (hq _ fun z => by cases z; exact n rfl)
  · obtain ⟨o2, g1, g2⟩ := R.ln j q e'
    have n : j ≠ i := fun z => by subst z; rw [e] at g1; cases g1
    exact ⟨o2, by rw [List.getElem?_set_ne (Ne.symm n)]; exact g1, g2⟩
theorem RelF.mut_lnt {o' : MO} {ho' : HO} (R : RelF K cl C F ρ E T σ H) (e : E[i]? = some (.lnt o)) (b : σ[i]? = some (some (.ref p))) (m : MRep K F ho' o') : RelF K cl C F ρ (E.set i (.lnt o')) T σ (upd H p ho') := by
  obtain ⟨p', e1, h1, h2⟩ := R.sl i _ _ b e
  cases e1
  have hq : ∀ g, g ≠ Tag.s i → ∀ q o, OwnAt K F ρ H g q o → OwnAt K F ρ (upd H p ho') g q o := fun g n q o h' =>
    h'.grow (L2.Same.refl F) (fun u e => by rw [upd_ne (h'.apart h1 n)]; exact e) h'.fn rfl
  refine { len := by simpa using R.len, f0 := R.f0, fh := fun q u e' => ?_, h0 := fun q u e' l => ?_, hf := R.hf, tb := ⟨let ⟨_, e0, m0, _⟩ := h1; tabs_mut R.tb.1 e0 m0, R.tb.2⟩, nt := R.nt, sl := fun j w s e1 e2 => ?_, ln := fun j q e' => ?_, tm := fun k w r e' => (R.tm k w r e').grow (L2.Same.refl F) (hq _ fun z => by cases z) }
  · rw [upd_ne (ne_of_none e' h1.fn)]; exact R.fh q u e'
  · rw [upd_ne (show q ≠ p from fun z => by subst z; exact l i h2)]; exact R.h0 q u e' l
  · rcases set_cases e2 with ⟨rfl, rfl, _⟩ | ⟨n, e2⟩
    · rw [b] at e1; cases e1
      exact ⟨p, rfl, ⟨ho', upd_same, m, h1.fn, h1.tag⟩, h2⟩
    · exact (R.sl j w s e1 e2).grow (L2.Same.refl F) (hq _ fun z => by cases z; exact n rfl)
  · by_cases n : j = i
    · subst n
      obtain ⟨o2, g1, g2⟩ := R.ln j q e'
      have hlt := (List.getElem?_eq_some_iff.mp e).1
      exact ⟨o', by rw [List.getElem?_set_self hlt], g2⟩
    · obtain ⟨o2, g1, g2⟩ := R.ln j q e'
      exact ⟨o2, by rw [List.getElem?_set_ne (Ne.symm n)]; exact g1, g2⟩

/-! ### behind a call -/
theorem RelF.there (R : RelF K cl C F ρ E T σ H) {u : HO} (e : C.H0 p = some u) : ∃ o, H p = some o := by
  cases q : H p with
  | some o => exact ⟨o, rfl⟩
  | none => rw [R.new_H0 q] at e; cases e
theorem RelF.retag (R : RelF K cl C F ρ E T σ H) (hn : H p = none) (g : Tag) : RelF K cl C F (fun q => if q = p then some g else ρ q) E T σ H := by
  have hq : ∀ g' q o, OwnAt K F ρ H g' q o → OwnAt K F (fun q => if q = p then some g else ρ q) H g' q o := fun g' q o h =>
    h.grow (L2.Same.refl F) (fun _ e => e) h.fn (if_neg (h.ne hn))
  exact { len := R.len, f0 := R.f0, fh := R.fh, h0 := R.h0, hf := R.hf, tb := R.tb, nt := R.nt, sl := fun i v s e1 e2 => (R.sl i v s e1 e2).grow (L2.Same.refl F) (hq _), ln := R.ln, tm := fun k w r e => (R.tm k w r e).grow (L2.Same.refl F) (hq _) }
theorem RelF.nt0 (R : RelF K cl C F ρ E T σ H) {u : HO} (e : C.H0 p = some u) : p ∉ cl.T.map (·.1) := fun h => by rw [R.nt p h] at e; cases e
theorem same_stp (R : RelF K cl C F ρ E T σ H) (hH : Stp cl.T H H') : Same F H' := fun p o e => hH.1 _ _ (by
  have h : p ∉ cl.T.map (·.1) := fun h => by rw [R.tb.2 p h] at e; cases e
  rw [noT_at h]; exact R.fh _ _ e)
theorem RelF.after (R : RelF K cl C F ρ E T σ H) (hH : Stp cl.T H H') (hF : Same F F') (hFH : Same F' H') (hk : ∀ p o, H p = some o → F' p = F p) : RelF K cl C F' ρ E T σ H' := by
  have hq : ∀ g q o, OwnAt K F ρ H g q o → OwnAt K F' ρ H' g q o := fun g q o h =>
    h.grow hF (fun u e => hH.1 _ _ (by
      obtain ⟨ho, e', m, _⟩ := _root_.id h
      rw [noT_at (noT_no R.tb.1 e' (mrep_tbl m))]; exact e)) (by obtain ⟨ho, e, m, _⟩ := id h; rw [hk q ho e]; exact h.fn) rfl
  exact { len := R.len, f0 := L2.Same.trans R.f0 hF, fh := hFH, h0 := fun q u e l => hH.1 _ _ (by rw [noT_at (R.nt0 e)]; exact R.h0 q u e l), tb := ⟨hH.2, fun p hp => (hk p _ (tabs_at R.tb.1 hp).choose_spec).trans (R.tb.2 p hp)⟩, nt := R.nt, hf := fun q u e => by
            obtain ⟨o, ho⟩ := R.there e
            rw [hk q o ho]; exact R.hf q u e, sl := fun i v s e1 e2 => (R.sl i v s e1 e2).grow hF (hq _), ln := R.ln, tm := fun k w r e => (R.tm k w r e).grow hF (hq _) }
end

/-! ### data without lists -/
mutual
def pureD : D → Bool
  | .list _ => false
  | .dict _ => false
  | .tuple ds => pureAll ds
  | .none => true
  | .bool _ => true
  | .int _ => true
  | .str _ => true
def pureAll : List D → Bool
  | [] => true
  | d :: ds => pureD d && pureAll ds
end
section
variable {K : PySem.W.Frag} {F F' : Hp}
mutual
theorem dp_pure (e : ∀ a xs, F a = some (.tup xs) → F' a = some (.tup xs)) : ∀ {v : V} {d : D}, Dp K F v d → pureD d = true → Dp K F' v d
  | _, _, .non, _ => .non
  | _, _, .bl b, _ => .bl b
  | _, _, .int i, _ => .int i
  | _, _, .str x, _ => .str x
  | _, _, .lst _ _, h => by simp [pureD] at h
  | _, _, .tup h hs, hp => .tup (e _ _ h) (dps_pure e hs (by simpa [pureD] using hp))
theorem dps_pure (e : ∀ a xs, F a = some (.tup xs) → F' a = some (.tup xs)) : ∀ {vs : List V} {ds : List D}, DpAll K F vs ds → pureAll ds = true → DpAll K F' vs ds
  | _, _, .nil, _ => .nil
  | _, d :: ds, .cons h hs, hp => by
    have hp' : pureD d = true ∧ pureAll ds = true := by simpa [pureAll] using hp
    exact .cons (dp_pure e h hp'.1) (dps_pure e hs hp'.2)
end
end
/-- what a call gives -/
inductive Rv where
  | val (d : D)
  | own (o : MO)
def Rv.ret : Rv → Ret
  | .val d => .val d
  | .own o => .own o
def Rv.pure : Rv → Bool
  | .val d => pureD d
  | .own (.lst ds) => pureAll ds
  | .own _ => false
inductive FR where
  | ok (v : Rv)
  | ex (x : Exn)
  | no
def RetV (K : PySem.W.Frag) (F' H H' : Hp) (v : V) : Rv → Prop
  | .val d => Dp K F' v d
  | .own o => ∃ p ho, v = .ref p ∧ H p = none ∧ H' p = some ho ∧ MRep K F' ho o ∧ F' p = none
/-- a def's promise by a function of data -/
def spM (K : PySem.W.Frag) (cl : Cl) (g : List D → FR) : Sp := fun vs H Q Ex => ∃ F0 ds, TOk cl.T F0 H ∧ Same F0 H ∧ DpAll K F0 vs ds ∧ match g ds with
  | .ok r => ∀ v H' F', Stp cl.T H H' → Same F0 F' → Same F' H' → (∀ p o, H p = some o → F' p = F0 p) → RetV K F' H H' v r → Q v H'
  | .ex x => ∀ d H', Stp cl.T H H' → ExD H d H' x → Ex (.ref (cl x.c)) d H'
  | .no => False
section
variable {K : PySem.W.Frag} {cl : Cl} {C : Ctx} {F F' : Hp} {ρ ρ' : Own} {E E' : SEnv} {T T' : List (V × Ret)} {σ : St} {H H' : Hp} {i j k : Nat} {p : Addr} {v : V} {r : Ret} {o : MO} {d : D}
/-- a call's value is pushed -/
theorem RelF.push_ret {rv : Rv} (R : RelF K cl C F ρ E T σ H) (hH : Stp cl.T H H') (hF : Same F F') (hFH : Same F' H') (hk : ∀ p o, H p = some o → F' p = F p) (h : RetV K F' H H' v rv) : Rel K cl C E (T ++ [(v, rv.ret)]) σ H' ∧ Bor σ v rv.ret := by
  cases rv with
  | val d => exact ⟨((R.after hH hF hFH hk).push_val h).rel, trivial⟩
  | own o =>
    obtain ⟨p, ho, rfl, hn, h1, h2, h3⟩ := h
    have R1 := (R.retag hn (.t T.length)).after hH hF hFH hk
    refine ⟨RelF.rel (F := F') (ρ := fun q => if q = p then some (.t T.length) else ρ q) { len := R1.len, f0 := R1.f0, fh := R1.fh, h0 := R1.h0, hf := R1.hf, tb := R1.tb, nt := R1.nt, sl := R1.sl, ln := R1.ln, tm := fun k w r e => ?_ }, trivial⟩
    rcases at_snoc e with e2 | ⟨hk1, e2⟩
    · exact R1.tm k w r e2
    · cases e2
      subst hk1
      exact ⟨p, rfl, ⟨ho, h1, h2, h3, if_pos rfl⟩, R.new_H0 hn⟩
def dats (E : SEnv) : List Ret → Option (List D)
  | [] => some []
  | r :: rs => match dat E r, dats E rs with
    | some d, some ds => some (d :: ds)
    | _, _ => none
/-- data with own lists outside -/
inductive DpTs (K : PySem.W.Frag) (F H : Hp) : List V → List D → Prop
  | nil : DpTs K F H [] []
  | cons {v : V} {vs : List V} {d : D} {ds : List D} : DpT K F H v d → DpTs K F H vs ds → DpTs K F H (v :: vs) (d :: ds)
theorem RelF.dats (R : RelF K cl C F ρ E T' σ H) : ∀ {rs : List Ret} {vs : List V} {T : List (V × Ret)} {ds : List D}, T' = T ++ vs.zip rs → Bors σ vs rs → MP.dats E rs = some ds → DpTs K F H vs ds
  | [], [], _, _, _, _, h => by cases h; exact .nil
  | r :: rs, v :: vs, T, ds, e, b, h => by
    unfold MP.dats at h
    split at h
    · rename_i d ds' e1 e2
      cases h
      have at0 : T'[T.length]? = some (v, r) := by rw [e]; simp
      exact .cons (R.dat at0 b.1 e1) (RelF.dats (T := T ++ [(v, r)]) R (by rw [e]; simp) b.2 e2)
    · cases h
theorem dps_of_dpts (h : Same F H) : ∀ {vs : List V} {ds : List D}, DpTs K F H vs ds → DpAll K H vs ds
  | _, _, .nil => .nil
  | _, _, .cons a b => .cons (dp_of a h) (dps_of_dpts h b)
open Classical in
/-- the data of the call: the own lists that are handed in, too -/
noncomputable def lendF (F H : Hp) (vs : List V) : Hp := fun p => if V.ref p ∈ vs ∧ F p = none ∧ ∃ xs, H p = some (.lst xs) then H p else F p
open Classical in
noncomputable def backF (F H F3 : Hp) (vs : List V) : Hp := fun p => if V.ref p ∈ vs ∧ F p = none ∧ ∃ xs, H p = some (.lst xs) then none else F3 p
theorem lend_same {vs : List V} (h : Same F H) : Same (lendF F H vs) H := fun p o e => by
  unfold lendF at e
  split at e
  · exact e
  · exact h p o e
theorem lend_from {vs : List V} : Same F (lendF F H vs) := fun p o e => by
  unfold lendF
  rw [if_neg (fun z => by rw [z.2.1] at e; cases e)]
  exact e
theorem lend_tb {T : List (Addr × Str)} {vs : List V} (t : TOk T F H) : TOk T (lendF F H vs) H := ⟨t.1, fun p hp => by
  unfold lendF
  split
  · rename_i h
    obtain ⟨_, _, xs, e⟩ := h
    exact absurd hp (noT_no t.1 e fun _ z => by cases z)
  · exact t.2 p hp⟩
theorem lend_dp {vs : List V} {v : V} {d : D} (hv : v ∈ vs) (h : DpT K F H v d) (hs : Same F H) : Dp K (lendF F H vs) v d := by
  cases d with
  | list ds =>
    obtain ⟨a, xs, rfl, h1, h2⟩ := h
    refine .lst ?_ (dps_mono lend_from h2)
    rcases h1 with h1 | h1
    · exact L2.Same.seq lend_from h1
    · cases q : F a with
      | some u =>
        have := hs a u q
        rw [h1] at this; cases this
        exact SqL.of (lend_from _ _ q)
      | none =>
        refine SqL.of ?_
        unfold lendF
        rw [if_pos ⟨hv, q, xs, h1⟩]
        exact h1
  | none => exact dp_mono lend_from (show Dp K F v _ from h)
  | bool b => exact dp_mono lend_from (show Dp K F v _ from h)
  | int i => exact dp_mono lend_from (show Dp K F v _ from h)
  | str x => exact dp_mono lend_from (show Dp K F v _ from h)
  | tuple ds => exact dp_mono lend_from (show Dp K F v _ from h)
  | dict ds => exact dp_mono lend_from (show Dp K F v _ from h)
theorem lend_dps {vs0 : List V} (hs : Same F H) : ∀ {vs : List V} {ds : List D}, (∀ v ∈ vs, v ∈ vs0) → DpTs K F H vs ds → DpAll K (lendF F H vs0) vs ds
  | _, _, _, .nil => .nil
  | _, _, hv, .cons a b => .cons (lend_dp (hv _ List.mem_cons_self) a hs) (lend_dps hs (fun v h => hv v (List.mem_cons_of_mem _ h)) b)
/-- a call whose value bears no list: what was handed in stays one's own -/
theorem RelF.call_pure {rv : Rv} {F3 : Hp} {vs : List V} (R : RelF K cl C F ρ E T σ H) (hH : Stp cl.T H H') (h3 : Same (lendF F H vs) F3) (h4 : Same F3 H') (hk : ∀ p o, H p = some o → F3 p = lendF F H vs p) (h : RetV K F3 H H' v rv) (hp : rv.pure = true) :
    Rel K cl C E (T ++ [(v, rv.ret)]) σ H' ∧ Bor σ v rv.ret := by
  have sq : ∀ a xs, F3 a = some (.tup xs) → backF F H F3 vs a = some (.tup xs) := fun a xs q => by
    have key : ∀ u, F3 a = some u → (∀ zs, u ≠ .lst zs) → backF F H F3 vs a = some u := fun u e n => by
      unfold backF
      rw [if_neg (fun z => ?_)]
      · exact e
      · obtain ⟨z1, z2, zs, z3⟩ := z
        have := hk a _ z3
        unfold lendF at this
        rw [if_pos ⟨z1, z2, zs, z3⟩, z3, e] at this
        exact n zs (Option.some.inj this)
    exact key _ q fun _ z => nomatch z
  refine R.push_ret (F' := backF F H F3 vs) hH (fun p o e => ?_) (fun p o e => ?_) (fun p o e => ?_) ?_
  · unfold backF
    rw [if_neg (fun z => by rw [z.2.1] at e; cases e)]
    exact h3 _ _ (lend_from _ _ e)
  · unfold backF at e
    split at e
    · cases e
    · exact h4 _ _ e
  · have := hk p o e
    unfold backF
    unfold lendF at this
    split
    · rename_i z; exact z.2.1.symm
    · rename_i z; rw [if_neg z] at this; exact this
  · cases rv with
    | val d => exact dp_pure sq h hp
    | own o => cases o with
      | dic _ => cases hp
      | dct _ => cases hp
      | raw _ => cases hp
      | lst ds =>
        obtain ⟨p, ho, rfl, hn, e1, ⟨ws, rfl, m⟩, e3⟩ := h
        refine ⟨p, _, rfl, hn, e1, ⟨ws, rfl, dps_pure sq m hp⟩, ?_⟩
        unfold backF
        rw [if_neg (fun z => by obtain ⟨_, _, xs, z3⟩ := z; rw [hn] at z3; cases z3)]
        exact e3
end
end MP

namespace MP
open PySem PySem.Spec L2

/-! ### judgements -/
section
variable (K : PySem.W.Frag) (cl : Cl) (W : WX) (C : Ctx) (T : List (V × Ret)) (σ : St)
/-- what is asked of a function's end: of its value, or of the wish for refusals -/
def Run {α : Type} (P : α → SEnv → Prop) : Res α → Prop
  | .ok a E' => P a E'
  | .ex x E' => ∀ d H', Rel K cl C E' T σ H' → ExD C.H0 d H' x → W (.ref (cl x.c)) d σ H'
  | .no => False
def RunS {α : Type} (P : α → SEnv → Prop) : Res α → Prop
  | .ok a E' => P a E'
  | .ex x E' => ∀ d σ' H', Rel K cl C E' T σ' H' → ExD C.H0 d H' x → W (.ref (cl x.c)) d σ' H'
  | .no => False
end
section
variable (K : PySem.W.Frag) (cl : Cl) (W : WX)
def tM (m : M Ret) : TE := fun σ H Q => ∃ C E T, Rel K cl C E T σ H ∧ Run K cl W C T σ (fun r E' => ∀ v H', Rel K cl C E' (T ++ [(v, r)]) σ H' → Bor σ v r → Q v H') (m E)
def tMT (m : M Bool) : TT := fun σ H Q => ∃ C E T, Rel K cl C E T σ H ∧ Run K cl W C T σ (fun b E' => ∀ H', Rel K cl C E' T σ H' → Q b H') (m E)
def tMA (m : M (List Ret)) : TA := fun σ H Q => ∃ C E T, Rel K cl C E T σ H ∧ Run K cl W C T σ (fun rs E' => ∀ vs H', Rel K cl C E' (T ++ vs.zip rs) σ H' → Bors σ vs rs → Q vs H') (m E)
def tMO (m : M (Option Int)) : TO := fun σ H Q => ∃ C E T, Rel K cl C E T σ H ∧ Run K cl W C T σ (fun o E' => ∀ H', Rel K cl C E' T σ H' → Q o H') (m E)
inductive Fl where
  | nx
  | rt (r : Ret)
  | bk
  | ct
def PostS (C : Ctx) (T : List (V × Ret)) (D : Ends) : Fl → SEnv → Prop
  | .nx, E' => ∀ σ' H', Rel K cl C E' T σ' H' → D.nx σ' H'
  | .rt r, E' => ∀ v σ' H', Rel K cl C E' (T ++ [(v, r)]) σ' H' → Bor σ' v r → D.rt v H'
  | .bk, E' => ∀ σ' H', Rel K cl C E' T σ' H' → D.bk σ' H'
  | .ct, E' => ∀ σ' H', Rel K cl C E' T σ' H' → D.ct σ' H'
def tMS (m : M Fl) : TS := fun D σ H => ∃ C E T, Rel K cl C E T σ H ∧ RunS K cl W C T (PostS K cl C T D) (m E)
end
section
variable {K : PySem.W.Frag} {cl : Cl} {W : WX} {C : Ctx} {T T' : List (V × Ret)} {σ : St} {α β : Type} {P P' : α → SEnv → Prop}
theorem Run.bind {Q : β → SEnv → Prop} {r : Res α} {f : α → SEnv → Res β} (h : Run K cl W C T σ Q (r.bind f)) : Run K cl W C T σ (fun a E => Run K cl W C T σ Q (f a E)) r := by
  cases r with
  | ok a E => exact h
  | ex x E => exact h
  | no => exact h
theorem RunS.bind {Q : β → SEnv → Prop} {r : Res α} {f : α → SEnv → Res β} (h : RunS K cl W C T Q (r.bind f)) : RunS K cl W C T (fun a E => RunS K cl W C T Q (f a E)) r := by
  cases r with
  | ok a E => exact h
  | ex x E => exact h
  | no => exact h
theorem Run.imp {r : Res α} (h : Run K cl W C T σ P r) (hp : ∀ a E, P a E → P' a E) : Run K cl W C T σ P' r := by
  cases r with
  | ok a E => exact hp a E h
  | ex x E => exact h
  | no => exact h
theorem Run.go {r : Res α} (h : Run K cl W C T σ P r) (hp : ∀ a E, P a E → P' a E) : Run K cl W C (T ++ T') σ P' r := by
  cases r with
  | ok a E => exact hp a E h
  | ex x E => exact fun d H' R => h d H' R.drop
  | no => exact h
theorem RunS.run {r : Res α} (h : RunS K cl W C T P r) (hp : ∀ a E, P a E → P' a E) : Run K cl W C T σ P' r := by
  cases r with
  | ok a E => exact hp a E h
  | ex x E => exact fun d H' R => h d σ H' R
  | no => exact h
theorem RunS.imp {r : Res α} (h : RunS K cl W C T P r) (hp : ∀ a E, P a E → P' a E) : RunS K cl W C T P' r := by
  cases r with
  | ok a E => exact hp a E h
  | ex x E => exact h
  | no => exact h
end
theorem PE.imp {X : Cx} {e : Expr} {t t' : TE} (h : PE X e t) (i : ∀ σ H Q, t' σ H Q → t σ H Q) : PE X e t' := ⟨fun p s σ H Q I q => h.run p s σ H Q I (i σ H Q q)⟩
theorem PT.imp {X : Cx} {e : Expr} {t t' : TT} (h : PT X e t) (i : ∀ σ H Q, t' σ H Q → t σ H Q) : PT X e t' := ⟨fun p s σ H Q I q => h.run p s σ H Q I (i σ H Q q)⟩
theorem PW.imp {X : Cx} {e : Expr} {t t' : TT} (h : PW X e t) (i : ∀ σ H Q, t' σ H Q → t σ H Q) : PW X e t' := ⟨fun w p s σ H Q I q => h.run w p s σ H Q I (i σ H Q q)⟩
theorem PA.imp {X : Cx} {e : List Expr} {t t' : TA} (h : PA X e t) (i : ∀ σ H Q, t' σ H Q → t σ H Q) : PA X e t' := ⟨fun po p s σ H Q I q => h.run po p s σ H Q I (i σ H Q q)⟩
theorem PO.imp {X : Cx} {e : Option Expr} {t t' : TO} (h : PO X e t) (i : ∀ σ H Q, t' σ H Q → t σ H Q) : PO X e t' := ⟨fun p s σ H Q I q => h.run p s σ H Q I (i σ H Q q)⟩
theorem PS.imp {X : Cx} {e : Stmt} {t t' : TS} (h : PS X e t) (i : ∀ D σ H, t' D σ H → t D σ H) : PS X e t' := ⟨fun p s σ H D I q => h.run p s σ H D I (i D σ H q)⟩
theorem PSs.imp {X : Cx} {e : List Stmt} {t t' : TS} (h : PSs X e t) (i : ∀ D σ H, t' D σ H → t D σ H) : PSs X e t' := ⟨fun p s σ H D I q => h.run p s σ H D I (i D σ H q)⟩

/-! ### values -/
def Gives (K : PySem.W.Frag) (F H : Hp) (Q : VK) : Rv → Prop
  | .val d => (∀ v, Dp K F v d → Q v H) ∧ ∀ ds p vs, d = .tuple ds → H p = none → DpAll K F vs ds → Q (.ref p) (upd H p (.tup vs))
  | .own o => ∀ p ho, H p = none → MRep K F ho o → Q (.ref p) (upd H p ho)
theorem gives {K : PySem.W.Frag} {cl : Cl} {C : Ctx} {F : Hp} {ρ : Own} {E : SEnv} {T T' : List (V × Ret)} {σ : St} {H : Hp} {Q : VK} {rv : Rv} (R : RelF K cl C F ρ E (T ++ T') σ H)
    (h : ∀ v H', Rel K cl C E (T ++ [(v, rv.ret)]) σ H' → Bor σ v rv.ret → Q v H') : Gives K F H Q rv := by
  cases rv with
  | val d =>
    refine ⟨fun v hv => h v H (R.drop.push_val hv).rel trivial, fun ds p vs e hn hd => ?_⟩
    subst e
    obtain ⟨R1, f1⟩ := R.drop.lay hn (.tup vs)
    exact h _ _ (R1.push_val (.tup upd_same (dps_mono f1 hd))).rel trivial
  | own o => exact fun p ho hn m => h _ _ (R.drop.push_own hn m).rel trivial
theorem Gives.bool {K : PySem.W.Frag} {F H : Hp} {Q : VK} {b : Bool} (h : Gives K F H Q (.val (.bool b))) : Q (.bl b) H := h.1 _ (.bl b)
theorem Gives.int {K : PySem.W.Frag} {F H : Hp} {Q : VK} {b : Int} (h : Gives K F H Q (.val (.int b))) : Q (.int b) H := h.1 _ (.int b)
theorem Gives.str {K : PySem.W.Frag} {F H : Hp} {Q : VK} {b : Str} (h : Gives K F H Q (.val (.str b))) : Q (.str b) H := h.1 _ (.str b)
theorem Gives.non {K : PySem.W.Frag} {F H : Hp} {Q : VK} (h : Gives K F H Q (.val .none)) : Q .non H := h.1 _ .non

/-- a two-place operation by data -/
def Op2 (K : PySem.W.Frag) (r : R2) (f : D → D → Option Rv) : Prop :=
  ∀ (F H : Hp) (x y : V) (a b : D) (rv : Rv) (Q : VK), Same F H → DpT K F H x a → DpT K F H y b → f a b = some rv → Gives K F H Q rv → r x y H Q
def Op1 (K : PySem.W.Frag) (r : V → Hp → VK → Prop) (f : D → Option Rv) : Prop :=
  ∀ (F H : Hp) (x : V) (a : D) (rv : Rv) (Q : VK), Same F H → DpT K F H x a → f a = some rv → Gives K F H Q rv → r x H Q
def OpN (K : PySem.W.Frag) (r : List V → Hp → VK → Prop) (f : List D → Option Rv) : Prop :=
  ∀ (F H : Hp) (xs : List V) (as : List D) (rv : Rv) (Q : VK), Same F H → DpTs K F H xs as → f as = some rv → Gives K F H Q rv → r xs H Q
def op2 (f : D → D → Option Rv) (E : SEnv) (r1 r2 : Ret) : Res Ret := match dat E r1, dat E r2 with
  | some a, some b => (match f a b with
    | some rv => .ok rv.ret E
    | none => .no)
  | _, _ => .no
def op1 (f : D → Option Rv) (E : SEnv) (r1 : Ret) : Res Ret := match dat E r1 with
  | some a => (match f a with
    | some rv => .ok rv.ret E
    | none => .no)
  | _ => .no
def opN (f : List D → Option Rv) (E : SEnv) (rs : List Ret) : Res Ret := match dats E rs with
  | some ds => (match f ds with
    | some rv => .ok rv.ret E
    | none => .no)
  | _ => .no
def m2 (f : D → D → Option Rv) (a b : M Ret) : M Ret := fun E => (a E).bind fun r1 E1 => (b E1).bind fun r2 E2 => op2 f E2 r1 r2
def m1 (f : D → Option Rv) (a : M Ret) : M Ret := fun E => (a E).bind fun r1 E1 => op1 f E1 r1
def mN (f : List D → Option Rv) (as : M (List Ret)) : M Ret := fun E => (as E).bind fun rs E1 => opN f E1 rs
def mA0 : M (List Ret) := fun E => .ok [] E
def mA1 (a : M Ret) (as : M (List Ret)) : M (List Ret) := fun E => (a E).bind fun r E1 => (as E1).bind fun rs E2 => .ok (r :: rs) E2

section
variable {K : PySem.W.Frag} {cl : Cl} {W : WX} {C : Ctx} {T T' : List (V × Ret)} {σ : St} {H : Hp} {E : SEnv}
theorem op2_run {P : Ret → SEnv → Prop} {f : D → D → Option Rv} {r1 r2 : Ret} (h : Run K cl W C T σ P (op2 f E r1 r2)) : ∃ a b rv, dat E r1 = some a ∧ dat E r2 = some b ∧ f a b = some rv ∧ P rv.ret E := by
  unfold op2 at h
  split at h
  · rename_i a b e1 e2
    split at h
    · rename_i rv e3
      exact ⟨a, b, rv, e1, e2, e3, h⟩
    · exact h.elim
  · exact h.elim
theorem op1_run {P : Ret → SEnv → Prop} {f : D → Option Rv} {r1 : Ret} (h : Run K cl W C T σ P (op1 f E r1)) : ∃ a rv, dat E r1 = some a ∧ f a = some rv ∧ P rv.ret E := by
  unfold op1 at h
  split at h
  · rename_i a e1
    split at h
    · rename_i rv e3
      exact ⟨a, rv, e1, e3, h⟩
    · exact h.elim
  · exact h.elim
theorem opN_run {P : Ret → SEnv → Prop} {f : List D → Option Rv} {rs : List Ret} (h : Run K cl W C T σ P (opN f E rs)) : ∃ as rv, dats E rs = some as ∧ f as = some rv ∧ P rv.ret E := by
  unfold opN at h
  split at h
  · rename_i a e1
    split at h
    · rename_i rv e3
      exact ⟨a, rv, e1, e3, h⟩
    · exact h.elim
  · exact h.elim
theorem tOp_of {r : R2} {f : D → D → Option Rv} {ma mb : M Ret} (hf : Op2 K r f) (σ : St) (H : Hp) (Q : VK) (h : tM K cl W (m2 f ma mb) σ H Q) : tOp r (tM K cl W ma) (tM K cl W mb) σ H Q := by
  obtain ⟨C, E, T, R, h⟩ := h
  refine ⟨C, E, T, R, (Run.bind h).imp fun r1 E1 h1 v1 H1 R1 b1 => ⟨C, E1, _, R1, (Run.bind h1).go fun r2 E2 h2 v2 H2 R2 b2 => ?_⟩⟩
  obtain ⟨a, b, rv, e1, e2, e3, p⟩ := op2_run h2
  obtain ⟨F, ρ, RF⟩ := R2
  have k1 : (T ++ [(v1, r1)] ++ [(v2, r2)])[T.length]? = some (v1, r1) := by simp
  have k2 : (T ++ [(v1, r1)] ++ [(v2, r2)])[T.length + 1]? = some (v2, r2) := by simp
  exact hf F H2 v1 v2 a b rv Q RF.fh (RF.dat k1 b1 e1) (RF.dat k2 b2 e2) e3 (gives (T' := [(v1, r1), (v2, r2)]) (by simpa using RF) p)
theorem tUn_of {r : V → Hp → VK → Prop} {f : D → Option Rv} {ma : M Ret} (hf : Op1 K r f) (σ : St) (H : Hp) (Q : VK) (h : tM K cl W (m1 f ma) σ H Q) : tUn r (tM K cl W ma) σ H Q := by
  obtain ⟨C, E, T, R, h⟩ := h
  refine ⟨C, E, T, R, (Run.bind h).imp fun r1 E1 h1 v1 H1 R1 b1 => ?_⟩
  obtain ⟨a, rv, e1, e3, p⟩ := op1_run h1
  obtain ⟨F, ρ, RF⟩ := R1
  have k1 : (T ++ [(v1, r1)])[T.length]? = some (v1, r1) := by simp
  exact hf F H1 v1 a rv Q RF.fh (RF.dat k1 b1 e1) e3 (gives RF p)
theorem tCB_of {r : List V → Hp → VK → Prop} {f : List D → Option Rv} {ms : M (List Ret)} (hf : OpN K r f) (σ : St) (H : Hp) (Q : VK) (h : tM K cl W (mN f ms) σ H Q) : tCB r (tMA K cl W ms) σ H Q := by
  obtain ⟨C, E, T, R, h⟩ := h
  refine ⟨C, E, T, R, (Run.bind h).imp fun rs E1 h1 vs H1 R1 b1 => ?_⟩
  obtain ⟨as, rv, e1, e3, p⟩ := opN_run h1
  obtain ⟨F, ρ, RF⟩ := R1
  exact hf F H1 vs as rv Q RF.fh (RF.dats rfl b1 e1) e3 (gives RF p)
end

/-! ### expressions -/
def mVar (i : Nat) : M Ret := fun E => match E[i]? with
  | some .un => .no
  | some _ => .ok (.bor i) E
  | none => .no
def mD (d : D) : M Ret := fun E => .ok (.val d) E
section
variable {X : Cx} {cl : Cl} {W : WX} {a b e : Expr} {es : List Expr} {pos : Pos} {ma mb mc m : M Ret} {ms : M (List Ret)}
theorem tVar_of {K : PySem.W.Frag} {i : Nat} (σ : St) (H : Hp) (Q : VK) (h : tM K cl W (mVar i) σ H Q) : tVar i σ H Q := by
  obtain ⟨C, E, T, ⟨F, ρ, R⟩, h⟩ := h
  unfold mVar at h
  split at h
  · exact h.elim
  · rename_i s n e
    obtain ⟨w, hw⟩ := slot_there R e
    have hs := R.sl i w s hw e
    have : ∃ x, w = some x := by
      cases s with
      | un => exact absurd rfl n
      | val d => obtain ⟨x, q, _⟩ := hs; exact ⟨x, q⟩
      | own o => obtain ⟨x, q, _⟩ := hs; exact ⟨_, q⟩
      | lnt o => obtain ⟨x, q, _⟩ := hs; exact ⟨_, q⟩
      | lck o => obtain ⟨x, _, q, _⟩ := hs; exact ⟨_, q⟩
      | exc o => obtain ⟨x, q, _⟩ := hs; exact ⟨_, q⟩
      | fn o => obtain ⟨x, _, q, _⟩ := hs; exact ⟨_, q⟩
      | nst b o => obtain ⟨x, q, _⟩ := hs; exact ⟨_, q⟩
    obtain ⟨x, rfl⟩ := this
    exact ⟨x, hw, h x H R.push_bor.rel hw⟩
  · exact h.elim
theorem den_var (i : Nat) {x : Str} (hN : X.N[i]? = some x := by rfl) (hv : Vis X.env.scope x := by first | exact Or.inl rfl | exact Or.inr (Or.inl rfl) | exact Or.inr (Or.inr rfl)) (hd : (x == ("__debug__" : Str)) = false := by decide)
    (hcd : (x == ("__classdict__" : Str)) = false := by decide) : PE X (.Name x pos) (tM X.K cl W (mVar i)) := PE.imp (pe_var hN hv hd hcd) tVar_of
theorem tC_of {K : PySem.W.Frag} {d : D} {v : V} (hd : ∀ F, Dp K F v d) (σ : St) (H : Hp) (Q : VK) (h : tM K cl W (mD d) σ H Q) : tC v σ H Q := by
  obtain ⟨C, E, T, ⟨F, ρ, R⟩, h⟩ := h
  exact h v H (R.push_val (hd F)).rel trivial
theorem den_int {i : Int} {j : Nat} : PE X (.Constant (.int i) j pos) (tM X.K cl W (mD (.int i))) := PE.imp pe_int (tC_of fun _ => .int i)
theorem den_bl {b : Bool} {j : Nat} : PE X (.Constant (.bool b) j pos) (tM X.K cl W (mD (.bool b))) := PE.imp pe_bl (tC_of fun _ => .bl b)
theorem den_non {j : Nat} : PE X (.Constant .none j pos) (tM X.K cl W (mD .none)) := PE.imp pe_non (tC_of fun _ => .non)
theorem den_str {x : Str} {j : Nat} : PE X (.Constant (.str x) j pos) (tM X.K cl W (mD (.str x))) := PE.imp pe_str (tC_of fun _ => .str x)
/-- a module's constant -/
theorem den_gint {x : Str} {i : Int} {t : Tok} (hg : Gl X x) (hm : X.mg x = some (.int i t)) (hd : (x == ("__debug__" : Str)) = false := by decide) : PE X (.Name x pos) (tM X.K cl W (mD (.int i))) := PE.imp (pe_glob hg hm (v := .int i) ⟨t, rfl⟩ hd) (tC_of fun _ => .int i)
theorem den_gstr {x y : Str} {t : Tok} (hg : Gl X x) (hm : X.mg x = some (.str y t)) (hd : (x == ("__debug__" : Str)) = false := by decide) : PE X (.Name x pos) (tM X.K cl W (mD (.str y))) := PE.imp (pe_glob hg hm (v := .str y) ⟨t, rfl⟩ hd) (tC_of fun _ => .str y)
theorem den_bin {op : Operator} {r : R2} {f : D → D → Option Rv} (hr : OpR X (binaryOp op) r) (hf : Op2 X.K r f) (ha : PE X a (tM X.K cl W ma)) (hb : PE X b (tM X.K cl W mb)) : PE X (.BinOp a op b pos) (tM X.K cl W (m2 f ma mb)) :=
  PE.imp (pe_op hr ha hb) (tOp_of hf)
theorem den_cmp {op : CmpOp} {r : R2} {f : D → D → Option Rv} (hr : OpR X (compareOp op) r) (hf : Op2 X.K r f) (ha : PE X a (tM X.K cl W ma)) (hb : PE X b (tM X.K cl W mb)) (hm : behindInMarks op b = false := by first | exact nomark _ | rfl) : PE X (.Compare a [op] [b] pos) (tM X.K cl W (m2 f ma mb)) :=
  PE.imp (pe_cmpR hr ha hb hm) (tOp_of hf)
theorem den_un {op : UnaryOp} {r : V → Hp → VK → Prop} {f : D → Option Rv} (hr : UnR X (unaryOp op) r) (hf : Op1 X.K r f) (ha : PE X a (tM X.K cl W ma)) : PE X (.UnaryOp op a pos) (tM X.K cl W (m1 f ma)) :=
  PE.imp (pe_un hr ha) (tUn_of hf)
theorem den_ix {r : R2} {f : D → D → Option Rv} (hr : IxR X r) (hf : Op2 X.K r f) (ha : PE X a (tM X.K cl W ma)) (hb : PE X b (tM X.K cl W mb)) (hs : PlainIx b := by exact fun _ _ => rfl) : PE X (.Subscript a b pos) (tM X.K cl W (m2 f ma mb)) :=
  PE.imp (pe_ix hr ha hb hs) (tOp_of hf)
theorem den_args0 : PA X [] (tMA X.K cl W mA0) := PA.imp pa_nil fun σ H Q h => by
  obtain ⟨C, E, T, R, h⟩ := h
  exact h [] H (by simpa using R) trivial
theorem den_args (ha : PE X e (tM X.K cl W ma)) (hr : PA X es (tMA X.K cl W ms)) (hs : starEach (e :: es) X.env = (false, eval e X.env) :: starEach es X.env := by rfl) : PA X (e :: es) (tMA X.K cl W (mA1 ma ms)) :=
  PA.imp (pa_cons ha hr hs) fun σ H Q h => by
    obtain ⟨C, E, T, R, h⟩ := h
    refine ⟨C, E, T, R, (Run.bind h).imp fun r1 E1 h1 v1 H1 R1 b1 => ⟨C, E1, _, R1, (Run.bind h1).go fun rs E2 h2 vs H2 R2 b2 => ?_⟩⟩
    exact h2 (v1 :: vs) H2 (by simpa using R2) ⟨b1, b2⟩
theorem den_callB {x : Str} {p : Pos} {id : String} {r : List V → Hp → VK → Prop} {f : List D → Option Rv} (hc : CallR X (.builtin id) r) (hf : OpN X.K r f) (hg : Gl X x) (hm : X.mg x = none) (hv : bootBuiltins x = some (.builtin id)) (ha : PA X (e :: es) (tMA X.K cl W ms))
    (hn : x ≠ "__name__" := by decide) (hdb : (x == ("__debug__" : Str)) = false := by decide) (he : starEach (e :: es) X.env = (false, eval e X.env) :: starEach es X.env := by rfl) (hpl : (backTo pos (starEach es X.env)).any (·.1) = false := by rfl) :
    PE X (.Call (.Name x p) (e :: es) [] pos) (tM X.K cl W (mN f ms)) := PE.imp (pe_callB hc hg hm hv ha hn hdb he hpl) (tCB_of hf)
theorem den_callTy {x : Str} {p : Pos} {id : String} {r : List V → Hp → VK → Prop} {f : List D → Option Rv} (hc : CallR X (.type id) r) (hf : OpN X.K r f) (hg : Gl X x) (hm : X.mg x = none) (hv : bootBuiltins x = some (.type id)) (ha : PA X (e :: es) (tMA X.K cl W ms))
    (hn : x ≠ "__name__" := by decide) (hdb : (x == ("__debug__" : Str)) = false := by decide) (he : starEach (e :: es) X.env = (false, eval e X.env) :: starEach es X.env := by rfl) (hpl : (backTo pos (starEach es X.env)).any (·.1) = false := by rfl) :
    PE X (.Call (.Name x p) (e :: es) [] pos) (tM X.K cl W (mN f ms)) := PE.imp (pe_callTy hc hg hm hv ha hn hdb he hpl) (tCB_of hf)

/-! ### displays -/
/-- what is kept by a new object -/
def mKeep (f : List D → Option Rv) (as : M (List Ret)) : M Ret := fun E => (as E).bind fun rs E1 => match takes E1 rs with
  | some (ds, E2) => (match f ds with
    | some rv => .ok rv.ret E2
    | none => .no)
  | none => .no
def tupF (ds : List D) : Option Rv := if ds.length ≤ 1000 then some (.val (.tuple ds)) else none
def lstF (ds : List D) : Option Rv := if ds.length ≤ 1000 then some (.own (.lst ds)) else none
def mTup (as : M (List Ret)) : M Ret := mKeep tupF as
def mLst (as : M (List Ret)) : M Ret := mKeep lstF as
theorem le1000 {n : Nat} (h : n ≤ 1000) : n ≤ sizeLine := Nat.le_of_lt (small1000 h)
theorem keep_run {K : PySem.W.Frag} {C : Ctx} {T : List (V × Ret)} {σ : St} {H : Hp} {E : SEnv} {f : List D → Option Rv} {rs : List Ret} {vs : List V} {P : Ret → SEnv → Prop} (R : Rel K cl C E (T ++ vs.zip rs) σ H) (b : Bors σ vs rs)
    (h : Run K cl W C T σ P (match takes E rs with
      | some (ds, E2) => (match f ds with
        | some rv => .ok rv.ret E2
        | none => .no)
      | none => .no)) : ∃ F ρ ds E2 rv, RelF K cl C F ρ E2 T σ H ∧ DpAll K F vs ds ∧ f ds = some rv ∧ P rv.ret E2 := by
  obtain ⟨F, ρ, RF⟩ := R
  split at h
  · rename_i ds E2 e1
    split at h
    · rename_i rv e2
      obtain ⟨F', _, R', h'⟩ := RF.takes b e1
      exact ⟨F', ρ, ds, E2, rv, R', h', e2, h⟩
    · exact h.elim
  · exact h.elim
theorem den_tup {j : Nat} (ha : PA X es (tMA X.K cl W ms)) : PE X (.Tuple es j pos) (tM X.K cl W (mTup ms)) := PE.imp (pe_tup ha) fun σ H Q h => by
  obtain ⟨C, E, T, R, h⟩ := h
  refine ⟨C, E, T, R, (Run.bind h).imp fun rs E1 h1 vs H1 R1 b1 => ?_⟩
  obtain ⟨F, ρ, ds, E2, rv, RF, hd, e, p⟩ := keep_run R1 b1 h1
  unfold tupF at e
  split at e
  · rename_i hl
    cases e
    refine ⟨by rw [dps_len hd]; exact le1000 hl, fun q hq => ?_⟩
    exact (gives (T' := []) (rv := .val (.tuple ds)) (by simpa using RF) p).2 ds q vs rfl hq hd
  · cases e
theorem den_lst (ha : PA X es (tMA X.K cl W ms)) : PE X (.List es pos) (tM X.K cl W (mLst ms)) := PE.imp (pe_lst ha) fun σ H Q h => by
  obtain ⟨C, E, T, R, h⟩ := h
  refine ⟨C, E, T, R, (Run.bind h).imp fun rs E1 h1 vs H1 R1 b1 => ?_⟩
  obtain ⟨F, ρ, ds, E2, rv, RF, hd, e, p⟩ := keep_run R1 b1 h1
  unfold lstF at e
  split at e
  · rename_i hl
    cases e
    refine ⟨by rw [dps_len hd]; exact le1000 hl, fun q hq => ?_⟩
    exact (gives (T' := []) (rv := .own (.lst ds)) (by simpa using RF) p) q _ hq ⟨vs, rfl, hd⟩
  · cases e
theorem den_dict0 : PE X (.Dict [] [] pos) (tM X.K cl W fun E => .ok (.own (.dic [])) E) := PE.imp pe_dnewK fun σ H Q h p hp => by
  obtain ⟨C, E, T, ⟨F, ρ, R⟩, h⟩ := h
  exact (gives (T' := []) (rv := .own (.dic [])) (by simpa using R) h) p _ hp ⟨[], rfl, .nil⟩
theorem den_dict0T : PE X (.Dict [] [] pos) (tM X.K cl W fun E => .ok (.own (.dct [])) E) := PE.imp pe_dnewT fun σ H Q h p hp => by
  obtain ⟨C, E, T, ⟨F, ρ, R⟩, h⟩ := h
  exact (gives (T' := []) (rv := .own (.dct [])) (by simpa using R) h) p _ hp ⟨[], rfl, .nil⟩
end
end MP

namespace MP
open PySem PySem.Spec L2

/-! ### tests -/
noncomputable def truD : D → Option Bool
  | .none => some false
  | .bool b => some b
  | .int i => some (i != 0)
  | .str s => if Ok (s.length ≤ sizeLine) then some ((s.length : Int) != 0) else none
  | .list ds => some (!ds.isEmpty)
  | .tuple ds => some (!ds.isEmpty)
  | .dict _ => none
/-- an expression's truth -/
noncomputable def mTru (m : M Ret) : M Bool := fun E => (m E).bind fun r E1 => match dat E1 r with
  | some d => (match truD d with
    | some b => .ok b E1
    | none => .no)
  | none => .no
/-- an expression that is True or False, as a test -/
def mBl (m : M Ret) : M Bool := fun E => (m E).bind fun r E1 => match dat E1 r with
  | some (.bool b) => .ok b E1
  | _ => .no
def mAnd (a b : M Bool) : M Bool := fun E => (a E).bind fun c E1 => if c = true then b E1 else .ok false E1
def mOr (a b : M Bool) : M Bool := fun E => (a E).bind fun c E1 => if c = true then .ok true E1 else b E1
def mNot (a : M Bool) : M Bool := fun E => (a E).bind fun c E1 => .ok (!c) E1
/-- values, all but the last True or False -/
def mAndV (a b : M Ret) : M Ret := fun E => (mBl a E).bind fun c E1 => if c = true then b E1 else .ok (.val (.bool false)) E1
def mOrV (a b : M Ret) : M Ret := fun E => (mBl a E).bind fun c E1 => if c = true then .ok (.val (.bool true)) E1 else b E1
def mNotV (a : M Ret) : M Ret := fun E => (mBl a E).bind fun c E1 => .ok (.val (.bool (!c))) E1
def mIfE (c : M Bool) (a b : M Ret) : M Ret := fun E => (c E).bind fun k E1 => if k = true then a E1 else b E1
theorem isEmpty_dps {K : PySem.W.Frag} {F : Hp} : ∀ {vs : List V} {ds : List D}, DpAll K F vs ds → vs.isEmpty = ds.isEmpty
  | _, _, .nil => rfl
  | _, _, .cons _ _ => rfl
theorem tru_of {K : PySem.W.Frag} {F H : Hp} {v : V} {d : D} {b : Bool} (hs : Same F H) (h : DpT K F H v d) (e : truD d = some b) : TruV K v H b := by
  cases d with
  | list ds =>
    obtain ⟨a, xs, rfl, h1, h2⟩ := h
    cases e
    exact .inl ⟨xs, sql_or hs h1, by rw [isEmpty_dps h2]⟩
  | none => cases (show Dp K F v _ from h); cases e; rfl
  | bool b => cases (show Dp K F v _ from h); cases e; rfl
  | int i => cases (show Dp K F v _ from h); cases e; rfl
  | str x =>
    cases (show Dp K F v _ from h)
    dsimp only [truD] at e
    split at e
    · rename_i hl; cases e; exact ⟨hl, rfl⟩
    · cases e
  | tuple ds =>
    cases (show Dp K F v _ from h) with
    | tup h1 h2 =>
      cases e
      exact .inr (.inl ⟨_, SqT.of (hs _ _ h1), by rw [isEmpty_dps h2]⟩)
  | dict _ => cases e
section
variable {X : Cx} {cl : Cl} {W : WX} {a b c e : Expr} {es : List Expr} {pos : Pos} {ma mb m : M Ret} {ms : M (List Ret)} {ta tb tc : M Bool}
theorem den_tru (ha : PE X a (tM X.K cl W ma)) (he : ∀ whole, isTrue a X.env whole = (do let v ← whole; standAt a.pos; holding [v] (truthy v)) := by exact fun _ => rfl) : PT X a (tMT X.K cl W (mTru ma)) :=
  PT.imp (pt_truth ha he) fun σ H Q h => by
    obtain ⟨C, E, T, R, h⟩ := h
    refine ⟨C, E, T, R, (Run.bind h).imp fun r1 E1 h1 v1 H1 R1 b1 => ?_⟩
    split at h1
    · rename_i d e1
      split at h1
      · rename_i k e2
        obtain ⟨F, ρ, RF⟩ := id R1
        exact ⟨k, tru_of RF.fh (RF.dat (k := T.length) (by simp) b1 e1) e2, h1 H1 R1.drop⟩
      · exact h1.elim
    · exact h1.elim
theorem bl_run {K : PySem.W.Frag} {C : Ctx} {T : List (V × Ret)} {σ : St} {P : Bool → SEnv → Prop} {E : SEnv} (h : Run K cl W C T σ P (mBl ma E)) :
    Run K cl W C T σ (fun r E1 => ∃ b, dat E1 r = some (.bool b) ∧ P b E1) (ma E) := (Run.bind h).imp fun r E1 h1 => by
  split at h1
  · rename_i k e1; exact ⟨k, e1, h1⟩
  · exact h1.elim
theorem dat_bl {K : PySem.W.Frag} {C : Ctx} {T : List (V × Ret)} {σ : St} {E : SEnv} {H : Hp} {v : V} {r : Ret} {k : Bool} (R : Rel K cl C E (T ++ [(v, r)]) σ H) (b : Bor σ v r) (e : dat E r = some (.bool k)) : v = .bl k := by
  obtain ⟨F, ρ, RF⟩ := R
  cases (show Dp K F v (.bool k) from RF.dat (k := T.length) (by simp) b e)
  rfl
theorem den_blt (ha : PE X a (tM X.K cl W ma)) (he : ∀ whole, isTrue a X.env whole = (do let v ← whole; standAt a.pos; holding [v] (truthy v)) := by exact fun _ => rfl) : PT X a (tMT X.K cl W (mBl ma)) :=
  PT.imp (pt_val ha he) fun σ H Q h => by
    obtain ⟨C, E, T, R, h⟩ := h
    exact ⟨C, E, T, R, (bl_run h).imp fun r1 E1 ⟨k, e1, h1⟩ v1 H1 R1 b1 => ⟨k, dat_bl R1 b1 e1, h1 H1 R1.drop⟩⟩
/-- a comparison as a test -/
theorem den_cmpt {op : CmpOp} {r : R2} {f : D → D → Option Rv} (hr : OpR X (compareOp op) r) (hf : Op2 X.K r f) (ha : PE X a (tM X.K cl W ma)) (hb : PE X b (tM X.K cl W mb)) (hm : behindInMarks op b = false := by first | exact nomark _ | rfl) : PT X (.Compare a [op] [b] pos) (tMT X.K cl W (mBl (m2 f ma mb))) :=
  PT.imp (pt_cmpR hr ha hb hm) fun σ H Q h => by
    obtain ⟨C, E, T, R, h⟩ := h
    have h2 := bl_run h
    exact tOp_of hf σ H _ ⟨C, E, T, R, h2.imp fun r1 E1 ⟨k, e1, h1⟩ v1 H1 R1 b1 => ⟨k, dat_bl R1 b1 e1, h1 H1 R1.drop⟩⟩
theorem den_not (ha : PT X a (tMT X.K cl W ta)) : PT X (.UnaryOp .Not a pos) (tMT X.K cl W (mNot ta)) := PT.imp (pt_not ha) fun σ H Q h => by
  obtain ⟨C, E, T, R, h⟩ := h
  exact ⟨C, E, T, R, (Run.bind h).imp fun k E1 h1 H1 R1 => h1 H1 R1⟩
theorem den_and1 (ha : PT X a (tMT X.K cl W ta)) : PW X (.BoolOp .And [a] pos) (tMT X.K cl W ta) := pw_and1 ha
theorem den_or1 (ha : PT X a (tMT X.K cl W ta)) : PW X (.BoolOp .Or [a] pos) (tMT X.K cl W ta) := pw_or1 ha
theorem den_and (ha : PT X a (tMT X.K cl W ta)) (hb : PW X (.BoolOp .And (b :: es) pos) (tMT X.K cl W tb)) : PW X (.BoolOp .And (a :: b :: es) pos) (tMT X.K cl W (mAnd ta tb)) := PW.imp (pw_and ha hb) fun σ H Q h => by
  obtain ⟨C, E, T, R, h⟩ := h
  refine ⟨C, E, T, R, (Run.bind h).imp fun k E1 h1 H1 R1 => ?_⟩
  by_cases hk : k = true
  · rw [if_pos hk] at h1 ⊢
    exact ⟨C, E1, T, R1, h1⟩
  · rw [if_neg hk] at h1 ⊢
    exact h1 H1 R1
theorem den_or (ha : PT X a (tMT X.K cl W ta)) (hb : PW X (.BoolOp .Or (b :: es) pos) (tMT X.K cl W tb)) : PW X (.BoolOp .Or (a :: b :: es) pos) (tMT X.K cl W (mOr ta tb)) := PW.imp (pw_or ha hb) fun σ H Q h => by
  obtain ⟨C, E, T, R, h⟩ := h
  refine ⟨C, E, T, R, (Run.bind h).imp fun k E1 h1 H1 R1 => ?_⟩
  by_cases hk : k = true
  · rw [if_pos hk] at h1 ⊢
    exact h1 H1 R1
  · rw [if_neg hk] at h1 ⊢
    exact ⟨C, E1, T, R1, h1⟩
theorem den_one {op : BoolOp} (ha : PE X a (tM X.K cl W ma)) : PE X (.BoolOp op [a] pos) (tM X.K cl W ma) := pe_one ha
theorem den_andV (ha : PE X a (tM X.K cl W ma)) (hb : PE X (.BoolOp .And (b :: es) pos) (tM X.K cl W mb)) : PE X (.BoolOp .And (a :: b :: es) pos) (tM X.K cl W (mAndV ma mb)) := PE.imp (pe_and ha hb) fun σ H Q h => by
  obtain ⟨C, E, T, R, h⟩ := h
  refine ⟨C, E, T, R, (bl_run (Run.bind h)).imp fun r1 E1 ⟨k, e1, h1⟩ v1 H1 R1 b1 => ⟨k, dat_bl R1 b1 e1, ?_⟩⟩
  by_cases hk : k = true
  · rw [if_pos hk] at h1 ⊢
    exact ⟨C, E1, T, R1.drop, h1⟩
  · rw [if_neg hk] at h1 ⊢
    obtain ⟨F, ρ, RF⟩ := R1
    exact h1 _ H1 (RF.drop.push_val (.bl false)).rel trivial
theorem den_orV (ha : PE X a (tM X.K cl W ma)) (hb : PE X (.BoolOp .Or (b :: es) pos) (tM X.K cl W mb)) : PE X (.BoolOp .Or (a :: b :: es) pos) (tM X.K cl W (mOrV ma mb)) := PE.imp (pe_or ha hb) fun σ H Q h => by
  obtain ⟨C, E, T, R, h⟩ := h
  refine ⟨C, E, T, R, (bl_run (Run.bind h)).imp fun r1 E1 ⟨k, e1, h1⟩ v1 H1 R1 b1 => ⟨k, dat_bl R1 b1 e1, ?_⟩⟩
  by_cases hk : k = true
  · rw [if_pos hk] at h1 ⊢
    obtain ⟨F, ρ, RF⟩ := R1
    exact h1 _ H1 (RF.drop.push_val (.bl true)).rel trivial
  · rw [if_neg hk] at h1 ⊢
    exact ⟨C, E1, T, R1.drop, h1⟩
theorem den_notV (ha : PE X a (tM X.K cl W ma)) : PE X (.UnaryOp .Not a pos) (tM X.K cl W (mNotV ma)) := PE.imp (pe_not ha) fun σ H Q h => by
  obtain ⟨C, E, T, R, h⟩ := h
  refine ⟨C, E, T, R, (bl_run (Run.bind h)).imp fun r1 E1 ⟨k, e1, h1⟩ v1 H1 R1 b1 => ⟨k, dat_bl R1 b1 e1, ?_⟩⟩
  obtain ⟨F, ρ, RF⟩ := R1
  exact h1 _ H1 (RF.drop.push_val (.bl (!k))).rel trivial
/-- not of a test, as a value -/
def mOfT (t : M Bool) : M Ret := fun E => (t E).bind fun c E1 => .ok (.val (.bool c)) E1
theorem den_ifE (hc : PT X c (tMT X.K cl W tc)) (ha : PE X a (tM X.K cl W ma)) (hb : PE X b (tM X.K cl W mb)) : PE X (.IfExp c a b pos) (tM X.K cl W (mIfE tc ma mb)) := PE.imp (pe_ifExp hc ha hb) fun σ H Q h => by
  obtain ⟨C, E, T, R, h⟩ := h
  refine ⟨C, E, T, R, (Run.bind h).imp fun k E1 h1 H1 R1 => ?_⟩
  by_cases hk : k = true
  · rw [if_pos hk] at h1 ⊢
    exact ⟨C, E1, T, R1, h1⟩
  · rw [if_neg hk] at h1 ⊢
    exact ⟨C, E1, T, R1, h1⟩
/-- is None -/
def isNon : D → Bool
  | .none => true
  | _ => false
def isNF (a : D) : Option Rv := some (.val (.bool (isNon a)))
def notNF (a : D) : Option Rv := some (.val (.bool (!isNon a)))
theorem dpt_non {K : PySem.W.Frag} {F H : Hp} {v : V} {a : D} (h : DpT K F H v a) : decide (v = .non) = isNon a := by
  cases a with
  | list ds => obtain ⟨q, xs, rfl, _⟩ := h; rfl
  | none => cases (show Dp K F v _ from h); rfl
  | bool b => cases (show Dp K F v _ from h); rfl
  | int b => cases (show Dp K F v _ from h); rfl
  | str b => cases (show Dp K F v _ from h); rfl
  | tuple b => cases (show Dp K F v _ from h); rfl
  | dict b => cases (show Dp K F v _ from h)
theorem den_isN {j : Nat} {p : Pos} (ha : PE X a (tM X.K cl W ma)) : PE X (.Compare a [.Is] [.Constant .none j p] pos) (tM X.K cl W (m1 isNF ma)) := PE.imp (pe_cmp (pc_isN ha) rfl) fun σ H Q h =>
  tUn_of (r := fun x H Q => Q (.bl (decide (x = .non))) H) (f := isNF) (fun F H x a rv Q hs hd e g => by cases e; rw [dpt_non hd]; exact g.bool) σ H Q h
theorem den_notN {j : Nat} {p : Pos} (ha : PE X a (tM X.K cl W ma)) : PE X (.Compare a [.IsNot] [.Constant .none j p] pos) (tM X.K cl W (m1 notNF ma)) := PE.imp (pe_cmp (pc_notN ha) rfl) fun σ H Q h =>
  tUn_of (r := fun x H Q => Q (.bl (!decide (x = .non))) H) (f := notNF) (fun F H x a rv Q hs hd e g => by cases e; rw [dpt_non hd]; exact g.bool) σ H Q h
end

/-! ### is None of what a name holds, a refusal too -/
def mIsNE (i : Nat) : M Ret := fun E => match E[i]? with
  | some (.exc _) => .ok (.val (.bool false)) E
  | some (.val d) => .ok (.val (.bool (isNon d))) E
  | _ => .no
def mNotNE (i : Nat) : M Ret := fun E => match E[i]? with
  | some (.exc _) => .ok (.val (.bool true)) E
  | some (.val d) => .ok (.val (.bool (!isNon d))) E
  | _ => .no
section
variable {X : Cx} {cl : Cl} {W : WX} {pos : Pos}
theorem den_isNE (i : Nat) {x : Str} {j : Nat} {p q : Pos} (hN : X.N[i]? = some x := by rfl) (hv : Vis X.env.scope x := by first | exact Or.inl rfl | exact Or.inr (Or.inl rfl) | exact Or.inr (Or.inr rfl)) (hd : (x == ("__debug__" : Str)) = false := by decide)
    (hcd : (x == ("__classdict__" : Str)) = false := by decide) : PE X (.Compare (.Name x q) [.Is] [.Constant .none j p] pos) (tM X.K cl W (mIsNE i)) := PE.imp (pe_cmp (pc_isN (pe_var hN hv hd hcd)) rfl) fun σ H Q h => by
  obtain ⟨C, E, T, ⟨F, ρ, R⟩, h⟩ := h
  unfold mIsNE at h
  split at h
  · rename_i x e
    obtain ⟨w, hw⟩ := slot_there R e
    obtain ⟨a, rfl, _⟩ := R.sl i w _ hw e
    exact ⟨.ref a, hw, h (.bl false) H (R.push_val (.bl false)).rel trivial⟩
  · rename_i d e
    obtain ⟨w, hw⟩ := slot_there R e
    obtain ⟨a, rfl, hd⟩ := R.sl i w _ hw e
    refine ⟨a, hw, ?_⟩
    show Q (.bl (decide (a = .non))) H
    rw [dpt_non (dpt_of hd R.fh)]
    exact h _ H (R.push_val (.bl _)).rel trivial
  · exact h.elim
theorem den_notNE (i : Nat) {x : Str} {j : Nat} {p q : Pos} (hN : X.N[i]? = some x := by rfl) (hv : Vis X.env.scope x := by first | exact Or.inl rfl | exact Or.inr (Or.inl rfl) | exact Or.inr (Or.inr rfl)) (hd : (x == ("__debug__" : Str)) = false := by decide)
    (hcd : (x == ("__classdict__" : Str)) = false := by decide) : PE X (.Compare (.Name x q) [.IsNot] [.Constant .none j p] pos) (tM X.K cl W (mNotNE i)) := PE.imp (pe_cmp (pc_notN (pe_var hN hv hd hcd)) rfl) fun σ H Q h => by
  obtain ⟨C, E, T, ⟨F, ρ, R⟩, h⟩ := h
  unfold mNotNE at h
  split at h
  · rename_i x e
    obtain ⟨w, hw⟩ := slot_there R e
    obtain ⟨a, rfl, _⟩ := R.sl i w _ hw e
    exact ⟨.ref a, hw, h (.bl true) H (R.push_val (.bl true)).rel trivial⟩
  · rename_i d e
    obtain ⟨w, hw⟩ := slot_there R e
    obtain ⟨a, rfl, hd⟩ := R.sl i w _ hw e
    refine ⟨a, hw, ?_⟩
    show Q (.bl (!decide (a = .non))) H
    rw [dpt_non (dpt_of hd R.fh)]
    exact h _ H (R.push_val (.bl _)).rel trivial
  · exact h.elim
end

/-! ### statements -/
def mNx : M Fl := fun E => .ok .nx E
def mSeq (a b : M Fl) : M Fl := fun E => (a E).bind fun f E1 => match f with
  | .nx => b E1
  | f => .ok f E1
def mExp (a : M Ret) : M Fl := fun E => (a E).bind fun _ E1 => .ok .nx E1
def mTo (g : Ret → SEnv → Option SEnv) (a : M Ret) : M Fl := fun E => (a E).bind fun r E1 => match g r E1 with
  | some E2 => .ok .nx E2
  | none => .no
def mSet (i : Nat) (a : M Ret) : M Fl := mTo (mStore i) a
def mIf (c : M Bool) (a b : M Fl) : M Fl := fun E => (c E).bind fun k E1 => if k = true then a E1 else b E1
def mRet (a : M Ret) : M Fl := fun E => (a E).bind fun r E1 => .ok (.rt r) E1
def mRetN : M Fl := fun E => .ok (.rt (.val .none)) E
def mBrk : M Fl := fun E => .ok .bk E
def mCnt : M Fl := fun E => .ok .ct E
def mNever : M Fl := fun _ => .no
section
variable {K : PySem.W.Frag} {cl : Cl} {W : WX}
/-- an expression first, then what a statement does with it -/
theorem tS_first {a : M Ret} {f : Ret → SEnv → Res Fl} {D : Ends} {σ : St} {H : Hp} (h : tMS K cl W (fun E => (a E).bind f) D σ H) :
    tM K cl W a σ H fun v H1 => ∃ C T r E1, Rel K cl C E1 (T ++ [(v, r)]) σ H1 ∧ Bor σ v r ∧ RunS K cl W C T (PostS K cl C T D) (f r E1) := by
  obtain ⟨C, E, T, R, h⟩ := h
  exact ⟨C, E, T, R, (RunS.bind h).run fun r E1 h1 v1 H1 R1 b1 => ⟨C, T, r, E1, R1, b1, h1⟩⟩
end
section
variable {X : Cx} {cl : Cl} {W : WX} {st : Stmt} {rest : List Stmt} {c e : Expr} {pos : Pos} {ma : M Ret} {tc : M Bool} {m n : M Fl}
theorem den_nil : PSs X [] (tMS X.K cl W mNx) := PSs.imp pss_nil fun D σ H h => by
  obtain ⟨C, E, T, R, h⟩ := h
  exact h σ H R
theorem den_pass : PS X (.Pass pos) (tMS X.K cl W mNx) := PS.imp ps_pass fun D σ H h => by
  obtain ⟨C, E, T, R, h⟩ := h
  exact h σ H R
theorem den_cons (h1 : PS X st (tMS X.K cl W m)) (h2 : PSs X rest (tMS X.K cl W n)) : PSs X (st :: rest) (tMS X.K cl W (mSeq m n)) := PSs.imp (pss_cons h1 h2) fun D σ H h => by
  obtain ⟨C, E, T, R, h⟩ := h
  refine ⟨C, E, T, R, (RunS.bind h).imp fun f E1 h1 => ?_⟩
  cases f with
  | nx => exact fun σ' H' R' => ⟨C, E1, T, R', h1⟩
  | rt r => exact h1
  | bk => exact h1
  | ct => exact h1
theorem den_last (h1 : PS X st (tMS X.K cl W m)) : PSs X [st] (tMS X.K cl W m) := pss_one h1
theorem den_expr (he : PE X e (tM X.K cl W ma)) (hs : swapsWith e none pos.line X.env = pure false := by rfl) : PS X (.Expr e pos) (tMS X.K cl W (mExp ma)) := PS.imp (ps_expr he hs) fun D σ H h => by
  obtain ⟨C, E, T, R, h⟩ := h
  exact ⟨C, E, T, R, (RunS.bind h).run fun r E1 h1 v1 H1 R1 b1 => h1 σ H1 R1.drop⟩
theorem den_ret (he : PE X e (tM X.K cl W ma)) : PS X (.Return (some e) pos) (tMS X.K cl W (mRet ma)) := PS.imp (ps_ret he) fun D σ H h => by
  obtain ⟨C, E, T, R, h⟩ := h
  exact ⟨C, E, T, R, (RunS.bind h).run fun r E1 h1 v1 H1 R1 b1 => h1 v1 σ H1 R1 b1⟩
theorem den_retN : PS X (.Return none pos) (tMS X.K cl W mRetN) := PS.imp ps_retN fun D σ H h => by
  obtain ⟨C, E, T, ⟨F, ρ, R⟩, h⟩ := h
  exact h .non σ H (R.push_val .non).rel trivial
theorem den_brk : PS X (.Break pos) (tMS X.K cl W mBrk) := PS.imp ps_break fun D σ H h => by
  obtain ⟨C, E, T, R, h⟩ := h
  exact h σ H R
theorem den_cnt : PS X (.Continue pos) (tMS X.K cl W mCnt) := PS.imp ps_continue fun D σ H h => by
  obtain ⟨C, E, T, R, h⟩ := h
  exact h σ H R
theorem den_if {as bs : List Stmt} (hc : PT X c (tMT X.K cl W tc)) (ha : PSs X as (tMS X.K cl W m)) (hb : PSs X bs (tMS X.K cl W n)) : PS X (.If c as bs pos) (tMS X.K cl W (mIf tc m n)) := PS.imp (ps_if hc ha hb) fun D σ H h => by
  obtain ⟨C, E, T, R, h⟩ := h
  refine ⟨C, E, T, R, (RunS.bind h).run fun k E1 h1 H1 R1 => ?_⟩
  by_cases hk : k = true
  · rw [if_pos hk] at h1 ⊢
    exact ⟨C, E1, T, R1, h1⟩
  · rw [if_neg hk] at h1 ⊢
    exact ⟨C, E1, T, R1, h1⟩
/-! ### targets -/
/-- what a target does with data -/
abbrev MG := Ret → SEnv → Option SEnv
def tMG (K : PySem.W.Frag) (cl : Cl) (g : MG) : TG := fun v σ H Q => ∃ C E T r, Rel K cl C E (T ++ [(v, r)]) σ H ∧ Bor σ v r ∧ ∃ E', g r E = some E' ∧ ∀ σ' H', Rel K cl C E' T σ' H' → Q σ' H'
theorem PG.imp {X : Cx} {e : Expr} {t t' : TG} (h : PG X e t) (i : ∀ v σ H Q, t' v σ H Q → t v σ H Q) : PG X e t' := ⟨fun p s σ H v u Q I r q => h.run p s σ H v u Q I r (i v σ H Q q)⟩
theorem den_tname (i : Nat) {x : Str} (hN : X.N.Nodup) (hi : X.N[i]? = some x := by rfl) (hx : Loc X.env.scope x := by first | exact Or.inl rfl | exact Or.inr rfl) (hf : X.fn x = true ∨ X.env.scope.names.lookup x = some .local := by first | exact .inl rfl | exact .inr rfl) : PG X (.Name x pos) (tMG X.K cl (mStore i)) :=
  PG.imp (pg_name hN hi hx hf) fun v σ H Q h => by
    obtain ⟨C, E, T, r, ⟨F, ρ, R⟩, b, E', e, h⟩ := h
    obtain ⟨F', ρ', _, R'⟩ := R.store b e
    exact h _ _ R'.rel
/-- several targets take the items of data -/
def tMGs (K : PySem.W.Frag) (cl : Cl) (g : List D → SEnv → Option SEnv) : TGs := fun vs σ H Q => ∃ C E T ds, Rel K cl C E (T ++ vs.zip (ds.map Ret.val)) σ H ∧ vs.length = ds.length ∧ ∃ E', g ds E = some E' ∧ ∀ σ' H', Rel K cl C E' T σ' H' → Q σ' H'
def gs0 : List D → SEnv → Option SEnv := fun ds E => match ds with
  | [] => some E
  | _ => none
def gs1 (g : MG) (gs : List D → SEnv → Option SEnv) : List D → SEnv → Option SEnv := fun ds E => match ds with
  | d :: ds => (match g (.val d) E with
    | some E1 => gs ds E1
    | none => none)
  | [] => none
theorem PGs.imp {X : Cx} {e : List Expr} {t t' : TGs} (h : PGs X e t) (i : ∀ v σ H Q, t' v σ H Q → t v σ H Q) : PGs X e t' := ⟨fun p s σ H v u Q I r q => h.run p s σ H v u Q I r (i v σ H Q q)⟩
theorem den_tgs0 : PGs X [] (tMGs X.K cl gs0) := PGs.imp pgs_nil fun vs σ H Q h => by
  obtain ⟨C, E, T, ds, R, hl, E', e, h⟩ := h
  cases ds with
  | nil =>
    have : vs = [] := List.eq_nil_of_length_eq_zero hl
    subst this
    cases e
    exact ⟨rfl, h σ H (by simpa using R)⟩
  | cons d ds => cases e
/-- the value for the first target stands last -/
theorem Rel.swap {K : PySem.W.Frag} {C : Ctx} {E : SEnv} {T : List (V × Ret)} {σ : St} {H : Hp} {v : V} {d : D} {vs : List V} {ds : List D} (R : Rel K cl C E (T ++ (v :: vs).zip ((d :: ds).map Ret.val)) σ H) : Rel K cl C E ((T ++ vs.zip (ds.map Ret.val)) ++ [(v, .val d)]) σ H := by
  obtain ⟨F, ρ, R⟩ := R
  have R' : RelF K cl C F ρ E ((T ++ [(v, .val d)]) ++ vs.zip (ds.map Ret.val)) σ H := by simpa using R
  have h1 : Dp K F v d := R'.tm T.length v (.val d) (by rw [List.append_assoc]; simp)
  have h2 : ∀ (k : Nat) (w : V) (r : Ret), (vs.zip (ds.map Ret.val))[k]? = some (w, r) → ∃ d, r = Ret.val d ∧ Dp K F w d := fun k w r e => by
    have e' : ((T ++ [(v, Ret.val d)]) ++ vs.zip (ds.map Ret.val))[(T.length + 1) + k]? = some (w, r) := by
      rw [List.getElem?_append_right (by simp)]
      simpa using e
    have hv : ∃ d, r = .val d := by
      obtain ⟨_, hr⟩ := List.getElem?_zip_eq_some.mp e
      rw [List.getElem?_map] at hr
      cases q : ds[k]? with
      | none => rw [q] at hr; cases hr
      | some d' => rw [q] at hr; cases hr; exact ⟨d', rfl⟩
    obtain ⟨d', rfl⟩ := hv
    exact ⟨d', rfl, (R'.tm _ w (.val d') e' : Dp K F w d')⟩
  refine RelF.rel (F := F) (ρ := ρ) { len := R.len, f0 := R.f0, fh := R.fh, h0 := R.h0, hf := R.hf, tb := R.tb, nt := R.nt, sl := R.sl, ln := R.ln, tm := fun k w r e => ?_ }
  rcases at_snoc e with e2 | ⟨_, e2⟩
  · rcases Nat.lt_or_ge k T.length with hk | hk
    · rw [List.getElem?_append_left hk] at e2
      exact R.tm k w r (by rw [List.getElem?_append_left hk]; exact e2)
    · rw [List.getElem?_append_right hk] at e2
      obtain ⟨d', rfl, h⟩ := h2 _ w r e2
      exact h
  · cases e2; exact h1
theorem den_tgs1 {es : List Expr} {g : MG} {gs : List D → SEnv → Option SEnv} (h1 : PG X e (tMG X.K cl g)) (h2 : PGs X es (tMGs X.K cl gs)) (hs : (assignEach (e :: es) X.env).map (·.2) = assign e X.env :: (assignEach es X.env).map (·.2) := by rfl) : PGs X (e :: es) (tMGs X.K cl (gs1 g gs)) :=
  PGs.imp (pgs_cons h1 h2 hs) fun vs σ H Q h => by
    obtain ⟨C, E, T, ds, R, hl, E', e, h⟩ := h
    cases ds with
    | nil => cases e
    | cons d ds =>
      cases vs with
      | nil => cases hl
      | cons v vs =>
        refine ⟨v, vs, rfl, ?_⟩
        unfold gs1 at e
        dsimp only at e
        cases q : g (.val d) E with
        | none => rw [q] at e; cases e
        | some E1 =>
          rw [q] at e
          exact ⟨C, E, _, .val d, R.swap, trivial, E1, q, fun σ' H' R' => ⟨C, E1, T, ds, R', Nat.succ.inj hl, E', e, h⟩⟩
def gTupF (n : Nat) (gs : List D → SEnv → Option SEnv) : MG := fun r E => match dat E r with
  | some (.tuple ds) => if ds.length = n then gs ds E else none
  | _ => none
theorem RelF.push_vals {K : PySem.W.Frag} {C : Ctx} {F : Hp} {ρ : Own} {E : SEnv} {σ : St} {H : Hp} : ∀ {vs : List V} {ds : List D} {T : List (V × Ret)}, RelF K cl C F ρ E T σ H → DpAll K F vs ds → RelF K cl C F ρ E (T ++ vs.zip (ds.map Ret.val)) σ H
  | _, _, T, R, .nil => by simpa using R
  | v :: vs, d :: ds, T, R, .cons h hs => by
    have := RelF.push_vals (R.push_val h) hs
    simpa using this
theorem den_ttup {es : List Expr} {k n : Nat} {gs : List D → SEnv → Option SEnv} (hc : X.calm = true) (h : PGs X es (tMGs X.K cl gs)) (hn : (assignEach es X.env).length = n := by rfl) (hst : (assignEach es X.env).findIdx? (·.1) = none := by rfl) : PG X (.Tuple es k pos) (tMG X.K cl (gTupF n gs)) :=
  PG.imp (pg_tup hc h hn hst) fun v σ H Q h => by
    obtain ⟨C, E, T, r, ⟨F, ρ, R⟩, b, E', e, h⟩ := h
    unfold gTupF at e
    split at e
    · rename_i ds e1
      split at e
      · rename_i hl
        cases (show Dp X.K F v (.tuple ds) from R.dat (k := T.length) (by simp) b e1) with
        | tup h1 h2 =>
          exact ⟨_, _, rfl, SqT.of (R.fh _ _ h1), (dps_len h2).trans hl, C, E, T, ds, (R.drop.push_vals h2).rel, dps_len h2, E', e, h⟩
      · cases e
    · cases e
theorem den_asg {tg e : Expr} {g : MG} (he : PE X e (tM X.K cl W ma)) (hg : PG X tg (tMG X.K cl g)) (hs : swapsWithSole [tg] e pos.line X.env = pure false := by rfl) (hw : swappedStores [tg] e X.env = pure none := by rfl)
    (h1 : (assignEach [tg] X.env).map (·.2) = [assign tg X.env] := by rfl) : PS X (.Assign [tg] e pos) (tMS X.K cl W (mTo g ma)) := PS.imp (ps_asg he hg hs hw h1) fun D σ H h => by
  obtain ⟨C, E, T, R, h⟩ := h
  refine ⟨C, E, T, R, (RunS.bind h).run fun r E1 h1 v1 H1 R1 b1 => ?_⟩
  cases q : g r E1 with
  | some E2 => rw [q] at h1; exact ⟨C, E1, T, r, R1, b1, E2, q, fun σ' H' R' => h1 σ' H' R'⟩
  | none => rw [q] at h1; exact (h1 : False).elim
theorem den_set (i : Nat) {x : Str} {pos' : Pos} (hN : X.N.Nodup) (he : PE X e (tM X.K cl W ma)) (hi : X.N[i]? = some x := by rfl) (hx : Loc X.env.scope x := by first | exact Or.inl rfl | exact Or.inr rfl) (hs : swapsWith e (some (.Name x pos')) pos.line X.env = pure false := by rfl) (hf : X.fn x = true ∨ X.env.scope.names.lookup x = some .local := by first | exact .inl rfl | exact .inr rfl) :
    PS X (.Assign [.Name x pos'] e pos) (tMS X.K cl W (mSet i ma)) := PS.imp (ps_set hN hi hx he hs hf) fun D σ H h => by
  obtain ⟨C, E, T, R, h⟩ := h
  refine ⟨C, E, T, R, (RunS.bind h).run fun r E1 h1 v1 H1 R1 b1 => ?_⟩
  cases q : mStore i r E1 with
  | some E2 =>
    rw [q] at h1
    obtain ⟨F, ρ, RF⟩ := R1
    obtain ⟨F', ρ', _, R'⟩ := RF.store b1 q
    exact h1 _ _ R'.rel
  | none => rw [q] at h1; exact (h1 : False).elim
end
end MP

namespace MP
open PySem PySem.Spec L2

/-! ### while -/
/-- n turns at most -/
def mWhileF (c : M Bool) (b : M Fl) : Nat → M Fl
  | 0 => fun _ => .no
  | n + 1 => fun E => (c E).bind fun k E1 => if k = true then (b E1).bind fun f E2 => (match f with
      | .nx => mWhileF c b n E2
      | .ct => mWhileF c b n E2
      | .bk => .ok .nx E2
      | .rt r => .ok (.rt r) E2) else .ok .nx E1
open Classical in
noncomputable def mWhile (c : M Bool) (b : M Fl) : M Fl := fun E => if h : ∃ n, mWhileF c b n E ≠ .no then mWhileF c b (Classical.choose h) E else .no
theorem whileF_mono (c : M Bool) (b : M Fl) : ∀ (n : Nat) (E : SEnv), mWhileF c b n E ≠ .no → mWhileF c b (n + 1) E = mWhileF c b n E
  | 0, E, h => absurd rfl h
  | n + 1, E, h => by
    show (c E).bind _ = (c E).bind _
    have h' : (c E).bind (fun k E1 => if k = true then (b E1).bind fun f E2 => (match f with
      | .nx => mWhileF c b n E2
      | .ct => mWhileF c b n E2
      | .bk => Res.ok Fl.nx E2
      | .rt r => .ok (.rt r) E2) else .ok .nx E1) ≠ .no := h
    cases hc : c E with
    | ex x E1 => rfl
    | no => rfl
    | ok k E1 =>
      rw [hc] at h'
      simp only [bind_ok] at h' ⊢
      by_cases hk : k = true
      · rw [if_pos hk] at h' ⊢
        rw [if_pos hk]
        cases hb : b E1 with
        | ex x E2 => rfl
        | no => rfl
        | ok f E2 =>
          rw [hb] at h'
          simp only [bind_ok] at h' ⊢
          cases f with
          | nx => exact whileF_mono c b n E2 h'
          | ct => exact whileF_mono c b n E2 h'
          | bk => rfl
          | rt r => rfl
      · rw [if_neg hk, if_neg hk]
theorem whileF_le (c : M Bool) (b : M Fl) {n m : Nat} {E : SEnv} (h : mWhileF c b n E ≠ .no) (hm : n ≤ m) : mWhileF c b m E = mWhileF c b n E := by
  induction m with
  | zero =>
    have : n = 0 := by omega
    subst this; rfl
  | succ m ih =>
    by_cases e : n = m + 1
    · subst e; rfl
    · have h1 := ih (by omega)
      rw [whileF_mono c b m E (by rw [h1]; exact h)]
      exact h1
/-- a run of n turns is the run -/
theorem while_eq {c : M Bool} {b : M Fl} {n : Nat} {E : SEnv} (h : mWhileF c b n E ≠ .no) : mWhile c b E = mWhileF c b n E := by
  have he : ∃ n, mWhileF c b n E ≠ .no := ⟨n, h⟩
  unfold mWhile
  rw [dif_pos he]
  have h2 := Classical.choose_spec he
  rcases Nat.le_total n (Classical.choose he) with hl | hl
  · exact whileF_le c b h hl
  · exact (whileF_le c b h2 hl).symm
section
variable {X : Cx} {cl : Cl} {W : WX} {c e : Expr} {pos : Pos} {ma : M Ret} {tc : M Bool} {m n : M Fl}
theorem den_while {body : List Stmt} (hp : PassesOwn (model X.prog X.w) X.A X.env X.xe) (hc : PT X c (tMT X.K cl W tc)) (hb : PSs X body (tMS X.K cl W m)) : PS X (.While c body [] pos) (tMS X.K cl W (mWhile tc m)) := PS.imp (ps_while hp hc hb) fun D σ H h => by
  obtain ⟨C, E, T, R, h⟩ := h
  by_cases he : ∃ n, mWhileF tc m n E ≠ .no
  · obtain ⟨n, hn⟩ := he
    rw [while_eq hn] at h
    refine ⟨fun n σ H => ∃ E, Rel X.K cl C E T σ H ∧ RunS X.K cl W C T (PostS X.K cl C T D) (mWhileF tc m n E), ⟨n, E, R, h⟩, ?_⟩
    rintro n σ H ⟨E, R, h⟩
    cases n with
    | zero => exact h.elim
    | succ n =>
      refine ⟨C, E, T, R, (RunS.bind h).run fun k E1 h1 H1 R1 => ?_⟩
      by_cases hk : k = true
      · rw [if_pos hk] at h1 ⊢
        refine ⟨fun σ' H' => ∃ E2, Rel X.K cl C E2 T σ' H' ∧ RunS X.K cl W C T (PostS X.K cl C T D) (mWhileF tc m n E2), fun σ' H' q => ⟨n, Nat.lt_succ_self n, q⟩, C, E1, T, R1, (RunS.bind h1).imp fun f E2 h2 => ?_⟩
        cases f with
        | nx => exact fun σ' H' R' => ⟨E2, R', h2⟩
        | ct => exact fun σ' H' R' => ⟨E2, R', h2⟩
        | bk => exact fun σ' H' R' => h2 σ' H' R'
        | rt r => exact fun v σ' H' R' b => h2 v σ' H' R' b
      · rw [if_neg hk] at h1 ⊢
        exact h1 σ H1 R1
  · have : mWhile tc m E = .no := by unfold mWhile; rw [dif_neg he]
    rw [this] at h
    exact h.elim
end

/-! ### what is walked -/
/-- J walks the items, as long as the heap keeps G -/
structure Walks (K : PySem.W.Frag) (F : Hp) (J : It) (its : List D) (G : Hp → Prop) : Prop where
  goes : ∀ i H, i < its.length → G H → J.go i H
  stops : ∀ H, G H → J.stop its.length H
  yields : ∀ i d H x H', its[i]? = some d → G H → J.yld i H x H' → (H' = H ∧ Dp K F x d) ∨ ∃ p vs ds, d = .tuple ds ∧ x = .ref p ∧ H p = none ∧ H' = upd H p (.tup vs) ∧ DpAll K F vs ds
/-- what an iterable is by the slots: its items; the slot that is locked while it is walked -/
abbrev MI := SEnv → Res (List D × Option Nat)
/-- the slots while the loop runs -/
def lockE (E : SEnv) : Option Nat → SEnv
  | none => E
  | some j => match E[j]? with
    | some (.own o) => E.set j (.lck o)
    | _ => E
def unlockE (E : SEnv) : Option Nat → Option SEnv
  | none => some E
  | some j => match E[j]? with
    | some (.lck o) => some (E.set j (.own o))
    | _ => none
def unlockX {α : Type} (lk : Option Nat) : Res α → Res α
  | .ok f E => (match unlockE E lk with
    | some E' => .ok f E'
    | none => .no)
  | .ex x E => (match unlockE E lk with
    | some E' => .ex x E'
    | none => .no)
  | .no => .no
section
variable {K : PySem.W.Frag} {cl : Cl} {C : Ctx} {F F' : Hp} {ρ ρ' : Own} {E E' : SEnv} {T T' : List (V × Ret)} {σ σ' : St} {H H' : Hp} {i j k : Nat} {p : Addr} {v : V} {r : Ret} {o : MO} {d : D}
/-- from now on F is kept -/
theorem RelF.base (R : RelF K cl C F ρ E T σ H) : RelF K cl { C with F0 := F } F ρ E T σ H :=
  { len := R.len, f0 := L2.Same.refl F, fh := R.fh, h0 := R.h0, tb := R.tb, nt := R.nt, hf := fun _ _ _ => rfl, sl := fun i v s e1 e2 => by
      have h := R.sl i v s e1 e2
      cases s <;> exact h, ln := R.ln, tm := fun k v r e => by
      have h := R.tm k v r e
      cases r <;> exact h }
theorem RelF.unbase (R : RelF K cl C F ρ E T σ H) (R' : RelF K cl { C with F0 := F } F' ρ' E' T' σ' H') : RelF K cl C F' ρ' E' T' σ' H' :=
  { len := R'.len, f0 := L2.Same.trans R.f0 R'.f0, fh := R'.fh, h0 := R'.h0, tb := R'.tb, nt := R'.nt, hf := fun p o e => (R'.hf p o e).trans (R.hf p o e), sl := fun i v s e1 e2 => by
      have h := R'.sl i v s e1 e2
      cases s <;> exact h, ln := R'.ln, tm := fun k v r e => by
      have h := R'.tm k v r e
      cases r <;> exact h }
/-- an own list is locked: from now on its place is kept -/
theorem RelF.lock (R : RelF K cl C F ρ E T σ H) (e : E[j]? = some (.own o)) (b : σ[j]? = some (some (.ref p))) :
    RelF K cl { C with F0 := F, H0 := fun q => if q = p then H p else C.H0 q, lck := fun i => if i = j then some p else C.lck i } F ρ (E.set j (.lck o)) T σ H := by
  obtain ⟨p', e1, h1, h2⟩ := R.sl j _ _ b e
  cases e1
  obtain ⟨ho, hh, hm, hf, ht⟩ := id h1
  have nl : ∀ i, C.lent i ≠ some p := fun i hi => by
    obtain ⟨o', g1, g2⟩ := R.ln i p hi
    obtain ⟨p2, q1, q2, _⟩ := R.sl i _ _ g2 g1
    cases q1
    by_cases hij : i = j
    · subst hij; rw [e] at g1; cases g1
    · exact (q2.apart h1 (fun z => by cases z; exact hij rfl)) rfl
  have own0 : ∀ g, g ≠ Tag.s j → ∀ q o, OwnAt K F ρ H g q o → C.H0 q = none → (if q = p then H p else C.H0 q) = none := fun g n q o h hq => by
    rw [if_neg (h.apart h1 n)]; exact hq
  refine { len := by simpa using R.len, f0 := L2.Same.refl F, fh := R.fh, h0 := fun q u e' l => ?_, tb := R.tb, nt := fun q hq => (if_neg (fun z : q = p => noT_no R.tb.1 hh (mrep_tbl hm) (by rw [← z]; exact hq))).trans (R.nt q hq), hf := fun _ _ _ => rfl, sl := fun i w s e1 e2 => ?_, ln := fun i q e' => ?_, tm := fun k w r e' => ?_ }
  · dsimp only at e'
    split at e'
    · rename_i hq; subst hq; exact e'
    · exact R.h0 q u e' l
  · rcases set_cases e2 with ⟨rfl, rfl, _⟩ | ⟨n, e2⟩
    · rw [b] at e1; cases e1
      exact ⟨p, ho, rfl, ⟨ho, hh, hm, hf, ht⟩, if_pos rfl, (if_pos rfl).trans hh, nl⟩
    · have h := R.sl i w s e1 e2
      have ns : Tag.s i ≠ Tag.s j := fun z => by cases z; exact n rfl
      cases s with
      | un => trivial
      | val d => exact h
      | own o' => obtain ⟨q, z1, z2, z3⟩ := h; exact ⟨q, z1, z2, own0 _ ns _ _ z2 z3⟩
      | lnt o' => exact h
      | lck o' => obtain ⟨q, u, z1, z2, z3, z4, z5⟩ := h; exact ⟨q, u, z1, z2, (if_neg n).trans z3, (if_neg (z2.apart h1 ns)).trans z4, z5⟩
      | exc x => exact h
      | fn ds =>
        obtain ⟨k, e1, e2, e3, e4, e5, h⟩ := h
        have nf : ∀ {a : Addr} {u : HO}, C.H0 a = some u → a ≠ p := fun {a u} e z => by rw [z, h2] at e; cases e
        refine ⟨k, e1, e2, (if_neg (nf e3)).trans e3, (if_neg (nf e4)).trans e4, e5, ?_⟩
        split at h
        · exact h
        · exact ⟨h.1, own0 _ ns _ _ h.1 h.2⟩
      | nst b xs =>
        obtain ⟨q, z1, z2, z3⟩ := h
        exact ⟨q, z1, z2.chg (L2.Same.refl F) (fun q o a1 a2 => ⟨a1, own0 _ ns _ _ a1 a2⟩), fun z => (if_neg n).trans (z3 z)⟩
  · obtain ⟨o', g1, g2⟩ := R.ln i q e'
    have n : i ≠ j := fun z => by subst z; rw [e] at g1; cases g1
    exact ⟨o', by rw [List.getElem?_set_ne (Ne.symm n)]; exact g1, g2⟩
  · have h := R.tm k w r e'
    cases r with
    | bor i => trivial
    | val d => exact h
    | own o' => obtain ⟨q, z1, z2, z3⟩ := h; exact ⟨q, z1, z2, own0 _ (fun z => by cases z) _ _ z2 z3⟩
theorem RelF.unlock (R : RelF K cl C F ρ E T σ H) (e : E[j]? = some (.own o)) (b : σ[j]? = some (some (.ref p)))
    (R' : RelF K cl { C with F0 := F, H0 := fun q => if q = p then H p else C.H0 q, lck := fun i => if i = j then some p else C.lck i } F' ρ' E' T' σ' H') {o' : MO} (e' : E'[j]? = some (.lck o')) : RelF K cl C F' ρ' (E'.set j (.own o')) T' σ' H' := by
  obtain ⟨p', e1, h1, h2⟩ := R.sl j _ _ b e
  cases e1
  obtain ⟨w, hw⟩ := slot_there R' e'
  obtain ⟨q, hq0, z1, z2, z3, z4, z5⟩ := R'.sl j w _ hw e'
  have hqp : q = p := by
    have z3' : (if j = j then some p else C.lck j) = some q := z3
    rw [if_pos rfl] at z3'
    exact (Option.some.inj z3').symm
  subst hqp
  have own0 : ∀ {x : Addr} {u : HO}, (if x = q then H q else C.H0 x) = some u → x ≠ q → C.H0 x = some u := fun {x u} a n => by rwa [if_neg n] at a
  have own1 : ∀ {x : Addr}, (if x = q then H q else C.H0 x) = none → C.H0 x = none := fun {x} a => by
    by_cases n : x = q
    · subst n; exact h2
    · rwa [if_neg n] at a
  refine { len := by simpa using R'.len, f0 := L2.Same.trans R.f0 R'.f0, fh := R'.fh, h0 := fun x u a l => ?_, tb := R'.tb, nt := fun x hx => own1 (R'.nt x hx), hf := fun x u a => ?_, sl := fun i w s e1 e2 => ?_, ln := fun i x a => ?_, tm := fun k w r a => ?_ }
  · have n : x ≠ q := fun z => by subst z; rw [h2] at a; cases a
    exact R'.h0 x u ((if_neg n).trans a) l
  · have n : x ≠ q := fun z => by subst z; rw [h2] at a; cases a
    exact (R'.hf x u ((if_neg n).trans a)).trans (R.hf x u a)
  · rcases set_cases e2 with ⟨rfl, rfl, _⟩ | ⟨n, e2⟩
    · rw [hw] at e1; cases e1
      exact ⟨q, z1, z2, h2⟩
    · have h := R'.sl i w s e1 e2
      cases s with
      | un => trivial
      | val d => exact h
      | own o2 => obtain ⟨x, y1, y2, y3⟩ := h; exact ⟨x, y1, y2, own1 y3⟩
      | lnt o2 => exact h
      | lck o2 =>
        obtain ⟨x, u, y1, y2, y3, y4, y5⟩ := h
        have nx : x ≠ q := y2.apart z2 fun z => by cases z; exact n rfl
        have y3' : (if i = j then some q else C.lck i) = some x := y3
        rw [if_neg n] at y3'
        exact ⟨x, u, y1, y2, y3', own0 y4 nx, y5⟩
      | exc x => exact h
      | fn ds =>
        obtain ⟨k, e1, e2, e3, e4, e5, h⟩ := h
        have e0 : C.H0 q = none := h2
        have nf : ∀ {a : Addr} {u w : HO}, H' a = some w → (if a = q then H q else C.H0 a) = some u → (∀ ho o, MRep K F' ho o → w ≠ ho) → C.H0 a = some u := fun {a u w} ea e ne => by
          refine own0 e fun z => ?_
          subst z
          obtain ⟨ho, g1, g2, _⟩ := z2
          rw [ea] at g1
          exact ne ho _ g2 (Option.some.inj g1)
        have hf1 : H' k.f = some (FunO k.f k.o) := R'.h0 _ _ e3 fun j => (e5 j).1
        have hc1 : H' k.c = some (LamX.CodeO k.c k.q) := R'.h0 _ _ e4 fun j => (e5 j).2
        refine ⟨k, e1, e2, nf hf1 e3 (fun ho o m z => mrep_fun m _ _ z.symm), nf hc1 e4 (fun ho o m z => mrep_code m _ _ z.symm), e5, ?_⟩
        split at h
        · exact h
        · exact ⟨h.1, own1 h.2⟩
      | nst b xs =>
        obtain ⟨x, y1, y2, y3⟩ := h
        refine ⟨x, y1, y2.chg (L2.Same.refl _) (fun q o a1 a2 => ⟨a1, own1 a2⟩), fun z => ?_⟩
        have y3' : (if i = j then some q else C.lck i) = some x := y3 z
        rw [if_neg n] at y3'
        exact y3'
  · obtain ⟨o2, g1, g2⟩ := R'.ln i x a
    have n : i ≠ j := fun z => by subst z; rw [e'] at g1; cases g1
    exact ⟨o2, by rw [List.getElem?_set_ne (Ne.symm n)]; exact g1, g2⟩
  · have h := R'.tm k w r a
    cases r with
    | bor i => trivial
    | val d => exact h
    | own o2 => obtain ⟨x, y1, y2, y3⟩ := h; exact ⟨x, y1, y2, own1 y3⟩
/-- the context while a loop runs -/
structure Locked (K : PySem.W.Frag) (cl : Cl) (C : Ctx) (F H : Hp) (σ : St) (lk : Option Nat) (C' : Ctx) : Prop where
  f0 : C'.F0 = F
  h0n : ∀ p, C'.H0 p = none → C.H0 p = none
  un : ∀ F' ρ' E' T' σ' H' E'', RelF K cl C' F' ρ' E' T' σ' H' → unlockE E' lk = some E'' → RelF K cl C F' ρ' E'' T' σ' H'
  keep : ∀ F' ρ' E' T' σ' H', RelF K cl C' F' ρ' E' T' σ' H' → ∀ j p, lk = some j → σ[j]? = some (some (.ref p)) → H' p = H p
theorem RelF.locks {lk : Option Nat} (R : RelF K cl C F ρ E T σ H) (hl : ∀ j, lk = some j → ∃ o, E[j]? = some (.own o)) : ∃ C', Rel K cl C' (lockE E lk) T σ H ∧ Locked K cl C F H σ lk C' := by
  cases lk with
  | none =>
    have h : Locked K cl C F H σ none { C with F0 := F } := { f0 := rfl, h0n := fun _ h => h, un := fun F' ρ' E' T' σ' H' E'' R' e => by cases e; exact R.unbase R', keep := fun _ _ _ _ _ _ _ _ _ h => nomatch h }
    exact ⟨{ C with F0 := F }, R.base.rel, h⟩
  | some j =>
    obtain ⟨o, e⟩ := hl j rfl
    obtain ⟨w, hw⟩ := slot_there R e
    obtain ⟨p, rfl, h1, h2⟩ := R.sl j w _ hw e
    have L := R.lock e hw
    have hlt := (List.getElem?_eq_some_iff.mp e).1
    obtain ⟨q, ho, z1, z2, z3, z4, z5⟩ := L.sl j _ _ hw (by rw [List.getElem?_set_self hlt])
    cases z1
    refine ⟨{ C with F0 := F, H0 := fun q => if q = p then H p else C.H0 q, lck := fun i => if i = j then some p else C.lck i }, ?_, ⟨rfl, fun q z => by
      by_cases n : q = p
      · subst n; exact h2
      · exact (if_neg n).symm.trans z, fun F' ρ' E' T' σ' H' E'' R' e' => ?_, fun F' ρ' E' T' σ' H' R' j' p' ej hp => ?_⟩⟩
    · have q : lockE E (some j) = E.set j (.lck o) := by
        simp only [lockE]
        rw [e]
      rw [q]
      exact L.rel
    · simp only [unlockE] at e'
      split at e'
      · rename_i o' e2
        cases e'
        exact R.unlock e hw R' e2
      · cases e'
    · cases ej
      rw [hw] at hp; cases hp
      have := R'.h0 p ho z4 z5
      obtain ⟨u, hu, _⟩ := h1
      have z4' : (if p = p then H p else C.H0 p) = some ho := z4
      rw [if_pos rfl] at z4'
      rw [this, z4']
theorem Locked.runS {D : Ends} {lk : Option Nat} {C' : Ctx} {W : WX} {r : Res Fl} (L : Locked K cl C F H σ lk C') (h : RunS K cl W C T (PostS K cl C T D) (unlockX lk r)) : RunS K cl W C' T (PostS K cl C' T D) r := by
  have un : ∀ {E' E'' : SEnv} {T' : List (V × Ret)} {σ' : St} {H' : Hp}, Rel K cl C' E' T' σ' H' → unlockE E' lk = some E'' → Rel K cl C E'' T' σ' H' := fun R e => by
    obtain ⟨F', ρ', R'⟩ := R
    exact (L.un _ _ _ _ _ _ _ R' e).rel
  cases r with
  | no => exact h
  | ex x E' =>
    unfold unlockX at h
    dsimp only at h
    split at h
    · rename_i E'' e
      exact fun d σ' H' R' ed => h d σ' H' (un R' e) (ed.weak L.h0n)
    · exact h.elim
  | ok f E' =>
    unfold unlockX at h
    dsimp only at h
    split at h
    · rename_i E'' e
      cases f with
      | nx => exact fun σ' H' R' => h σ' H' (un R' e)
      | bk => exact fun σ' H' R' => h σ' H' (un R' e)
      | ct => exact fun σ' H' R' => h σ' H' (un R' e)
      | rt r => exact fun v σ' H' R' b => h v σ' H' (un R' e) b
    · exact h.elim
theorem Locked.run {D : SEnv → Prop} {D' : SEnv → Prop} {lk : Option Nat} {C' : Ctx} {W : WX} {r : Res Unit} (L : Locked K cl C F H σ lk C') {σ2 : St} (h : Run K cl W C T σ2 (fun _ E => D E) (unlockX lk r)) (hd : ∀ E E', unlockE E lk = some E' → D E' → D' E) : Run K cl W C' T σ2 (fun _ E => D' E) r := by
  cases r with
  | no => exact h
  | ex x E' =>
    unfold unlockX at h
    dsimp only at h
    split at h
    · rename_i E'' e
      exact fun d H' R' ed => h d H' (by
        obtain ⟨F', ρ', R'⟩ := R'
        exact (L.un _ _ _ _ _ _ _ R' e).rel) (ed.weak L.h0n)
    · exact h.elim
  | ok f E' =>
    unfold unlockX at h
    dsimp only at h
    split at h
    · rename_i E'' e
      exact hd _ _ e h
    · exact h.elim
end
/-- the reading of an iterable -/
def tMI (K : PySem.W.Frag) (cl : Cl) (W : WX) (mi : MI) : TI := fun σ H R => ∃ C E T, Rel K cl C E T σ H ∧ Run K cl W C T σ (fun il E' => ∀ J H' F ρ (G : Hp → Prop), RelF K cl C F ρ E' T σ H' → Walks K F J il.1 G →
  (∀ F' H'', Same F F' → Same F' H'' → (∀ j p, il.2 = some j → σ[j]? = some (some (.ref p)) → H'' p = H' p) → G H'') → (∀ j, il.2 = some j → ∃ o, E'[j]? = some (.own o)) → R J H') (mi E)
def mForL (g : MG) (b : M Fl) : List D → M Fl
  | [] => mNx
  | d :: ds => fun E => match g (.val d) E with
    | none => .no
    | some E1 => (b E1).bind fun f E2 => (match f with
      | .nx => mForL g b ds E2
      | .ct => mForL g b ds E2
      | .bk => .ok .nx E2
      | .rt r => .ok (.rt r) E2)
def mFor (mi : MI) (g : MG) (b : M Fl) : M Fl := fun E => (mi E).bind fun il E1 => unlockX il.2 (mForL g b il.1 (lockE E1 il.2))
section
variable {X : Cx} {cl : Cl} {W : WX} {tg iter : Expr} {pos : Pos} {mi : MI} {g : MG} {m : M Fl}
theorem PI.imp {X : Cx} {tg e : Expr} {t t' : TI} (h : PI X tg e t) (i : ∀ σ H R, t' σ H R → t σ H R) : PI X tg e t' := ⟨fun p s σ H R I q => h.run p s σ H R I (i σ H R q)⟩
theorem den_for {body : List Stmt} (hp : PassesOwn (model X.prog X.w) X.A X.env X.xe) (hc : X.calm = true) (hi : PI X tg iter (tMI X.K cl W mi)) (hg : PG X tg (tMG X.K cl g)) (hb : PSs X body (tMS X.K cl W m))
    (hs : ∀ x, foldedSetIterable iter X.env x = pure x := by intro _; rfl) : PS X (.For tg iter body [] pos) (tMS X.K cl W (mFor mi g m)) := PS.imp (ps_for hp hc hi hg hb hs) fun D σ H h => by
  obtain ⟨C, E, T, R, h⟩ := h
  refine ⟨C, E, T, R, (RunS.bind h).run fun il E1 h1 J H1 F ρ G R1 wk hG hl => ?_⟩
  obtain ⟨its, lk⟩ := il
  obtain ⟨C', R2, L⟩ := R1.locks hl
  have h2 := L.runS h1
  clear h1 h R
  have step : ∀ i E, RunS X.K cl W C' T (PostS X.K cl C' T D) (mForL g m (its.drop i) E) → ∀ d, its[i]? = some d → ∃ E1, g (.val d) E = some E1 ∧ RunS X.K cl W C' T (fun f E2 => match f with
      | .nx => RunS X.K cl W C' T (PostS X.K cl C' T D) (mForL g m (its.drop (i + 1)) E2)
      | .ct => RunS X.K cl W C' T (PostS X.K cl C' T D) (mForL g m (its.drop (i + 1)) E2)
      | .bk => PostS X.K cl C' T D .nx E2
      | .rt r => PostS X.K cl C' T D (.rt r) E2) (m E1) := fun i E h d e => by
    obtain ⟨hi, rfl⟩ := List.getElem?_eq_some_iff.mp e
    rw [List.drop_eq_getElem_cons hi] at h
    unfold mForL at h
    split at h
    · exact h.elim
    · rename_i E1 e1
      refine ⟨E1, e1, (RunS.bind h).imp fun f E2 h3 => ?_⟩
      cases f <;> exact h3
  have kG : ∀ {E σ' H'}, Rel X.K cl C' E T σ' H' → G H' := fun {E σ' H'} R => by
    obtain ⟨F', ρ', R'⟩ := R
    exact hG F' H' (by rw [← L.f0]; exact R'.f0) R'.fh (fun j p e1 e2 => L.keep _ _ _ _ _ _ R' j p e1 e2)
  refine ⟨fun i n σ' H' => n = its.length - i ∧ i ≤ its.length ∧ ∃ E, Rel X.K cl C' E T σ' H' ∧ RunS X.K cl W C' T (PostS X.K cl C' T D) (mForL g m (its.drop i) E), ⟨its.length, by simp, Nat.zero_le _, _, R2, by simpa using h2⟩, ?_⟩
  rintro i n σ' H' ⟨rfl, hi, E, R3, h3⟩
  by_cases hlt : i < its.length
  · refine .inr ⟨wk.goes i H' hlt (kG R3), fun σ' H' => ∃ E, Rel X.K cl C' E T σ' H' ∧ RunS X.K cl W C' T (PostS X.K cl C' T D) (mForL g m (its.drop (i + 1)) E), fun σ' H' q => ⟨its.length - (i + 1), by omega, rfl, hlt, q⟩, fun x H2 y => ?_⟩
    obtain ⟨E1, e1, h4⟩ := step i E h3 its[i] (List.getElem?_eq_getElem hlt)
    have fin : ∀ {H2 : Hp}, Rel X.K cl C' E (T ++ [(x, .val its[i])]) σ' H2 → tMG X.K cl g x σ' H2 fun σ2 H2 => tMS X.K cl W m { D with nx := fun σ' H' => ∃ E, Rel X.K cl C' E T σ' H' ∧ RunS X.K cl W C' T (PostS X.K cl C' T D) (mForL g m (its.drop (i + 1)) E), ct := fun σ' H' => ∃ E, Rel X.K cl C' E T σ' H' ∧ RunS X.K cl W C' T (PostS X.K cl C' T D) (mForL g m (its.drop (i + 1)) E), bk := D.nx } σ2 H2 := fun {H2} R4 => by
      refine ⟨C', E, T, .val its[i], R4, trivial, E1, e1, fun σ2 H3 R5 => ⟨C', E1, T, R5, h4.imp fun f E2 h5 => ?_⟩⟩
      cases f with
      | nx => exact fun σ' H' R' => ⟨E2, R', h5⟩
      | ct => exact fun σ' H' R' => ⟨E2, R', h5⟩
      | bk => exact h5
      | rt r => exact h5
    obtain ⟨F', ρ', R3'⟩ := id R3
    have fs : Same F F' := by rw [← L.f0]; exact R3'.f0
    rcases wk.yields i its[i] H' x H2 (List.getElem?_eq_getElem hlt) (kG R3) y with ⟨rfl, hd⟩ | ⟨p, vs, ds, e, rfl, hn, rfl, hd⟩
    · exact fin (R3'.push_val (dp_mono fs hd)).rel
    · obtain ⟨R6, f6⟩ := R3'.lay hn (.tup vs)
      have : Dp X.K (upd F' p (.tup vs)) (.ref p) its[i] := by
        rw [e]
        exact .tup upd_same (dps_mono f6 (dps_mono fs hd))
      exact fin (R6.push_val this).rel
  · have e : i = its.length := by omega
    subst e
    rw [List.drop_length] at h3
    exact .inl ⟨wk.stops H' (kG R3), h3 σ' H' R3⟩

/-! ### iterables -/
/-- a list or a tuple that is data, or an own list -/
def mIt (m : M Ret) : MI := fun E => (m E).bind fun r E1 => match r with
  | .val (.list ds) => .ok (ds, none) E1
  | .val (.tuple ds) => .ok (ds, none) E1
  | .own (.lst ds) => .ok (ds, none) E1
  | .bor j => (match E1[j]? with
    | some (.val (.list ds)) => .ok (ds, none) E1
    | some (.val (.tuple ds)) => .ok (ds, none) E1
    | some (.own (.lst ds)) => .ok (ds, some j) E1
    | _ => .no)
  | _ => .no
/-- what an iterator over a list or tuple walks -/
theorem walks_list {K : PySem.W.Frag} {F : Hp} {a : Addr} {xs : List V} {ds : List D} (h : DpAll K F xs ds) : Walks K F (Itl K a) ds (fun H => SqL K H a xs) where
  goes := fun i H hi g => ⟨xs, xs[i]'(by rw [dps_len h]; exact hi), g, List.getElem?_eq_getElem _⟩
  stops := fun H g => ⟨xs, g, by rw [dps_len h]; exact Nat.le_refl _⟩
  yields := fun i d H x H' e g y => by
    obtain ⟨rfl, y⟩ := y
    obtain ⟨v, e1, h1⟩ := dps_get h e
    have := (y xs g).symm.trans e1
    cases this
    exact .inl ⟨rfl, h1⟩
theorem walks_tup {K : PySem.W.Frag} {F : Hp} {a : Addr} {xs : List V} {ds : List D} (h : DpAll K F xs ds) : Walks K F (Itt K a) ds (fun H => SqT K H a xs) where
  goes := fun i H hi g => ⟨xs, xs[i]'(by rw [dps_len h]; exact hi), g, List.getElem?_eq_getElem _⟩
  stops := fun H g => ⟨xs, g, by rw [dps_len h]; exact Nat.le_refl _⟩
  yields := fun i d H x H' e g y => by
    obtain ⟨rfl, y⟩ := y
    obtain ⟨v, e1, h1⟩ := dps_get h e
    have := (y xs g).symm.trans e1
    cases this
    exact .inl ⟨rfl, h1⟩
theorem walks_range {K : PySem.W.Frag} {F : Hp} {lo : Int} {n : Nat} : Walks K F (Itr lo n) ((List.range n).map fun i => PyData.int (lo + (i : Nat))) (fun _ => True) where
  goes := fun i H hi g => by show i < n; simpa using hi
  stops := fun H g => by show n ≤ _; simp
  yields := fun i d H x H' e g y => by
    obtain ⟨rfl, rfl⟩ := y
    rw [List.getElem?_map] at e
    cases q : (List.range n)[i]? with
    | none => rw [q] at e; cases e
    | some k =>
      rw [q] at e
      cases e
      obtain ⟨_, rfl⟩ := List.getElem?_eq_some_iff.mp q
      exact .inl ⟨rfl, by simpa using Dp.int _⟩
/-- a list or a tuple, walked -/
theorem pi_seq {l : Expr} {tl : TE} (hl : PE X l tl) : PI X tg l (fun σ H R => tl σ H fun x H1 => ∃ a, x = .ref a ∧ ((∃ xs, SqL X.K H1 a xs ∧ R (Itl X.K a) H1) ∨ ∃ xs, SqT X.K H1 a xs ∧ R (Itt X.K a) H1)) := by
  refine ⟨fun pins s σ H R I h => ?_⟩
  refine thn (hl.run pins s σ H _ I h) fun v s1 ⟨x, H1, I1, r1, a, e, q⟩ => ?_
  subst e
  cases r1
  have fp : ∀ b ∈ [s1.heap.objs.size], FpOk X pins H1 b := fun b hb => by
    rw [List.mem_singleton.mp hb]
    exact I1.fpOk (Nat.le_refl _) (I1.hok.fresh (Nat.le_refl _))
  rcases q with ⟨xs, hq, q⟩ | ⟨xs, hq, q⟩
  · obtain ⟨its, rv, pl, hz⟩ := I1.list hq
    refine wpAny_pyIter_list pl.isList ?_
    exact ⟨s1.heap.objs.size, [s1.heap.objs.size], _, _, H1, rfl, I1.kept (t' := s1.toks) fun b o e => Heap.get?_push_of_some _ e, turn_list a _, ⟨_, Heap.get?_push_size _ rfl, rfl, rfl⟩, fp, q⟩
  · obtain ⟨its, rv, pl, hz⟩ := I1.tuple hq
    refine wpAny_pyIter_tuple (show s1.heap.IsTuple a its.toArray from pl) ?_
    exact ⟨s1.heap.objs.size, [s1.heap.objs.size], _, _, H1, rfl, I1.kept (t' := s1.toks) fun b o e => Heap.get?_push_of_some _ e, turn_tuple a _, ⟨_, Heap.get?_push_size _ rfl, rfl, rfl⟩, fp, q⟩
theorem den_it {l : Expr} {ml : M Ret} (hl : PE X l (tM X.K cl W ml)) : PI X tg l (tMI X.K cl W (mIt ml)) := PI.imp (pi_seq hl) fun σ H R h => by
  obtain ⟨C, E, T, R0, h⟩ := h
  refine ⟨C, E, T, R0, (Run.bind h).imp fun r E1 h1 v H1 R1 b1 => ?_⟩
  obtain ⟨F, ρ, RF⟩ := R1
  have at0 : (T ++ [(v, r)])[T.length]? = some (v, r) := by simp
  -- data
  have list_ : ∀ {ds : List D} {E2 : SEnv} {ρ2 : Own} {F2 : Hp}, Dp X.K F2 v (.list ds) → RelF X.K cl C F2 ρ2 E2 T σ H1 →
      (∀ J H' F ρ (G : Hp → Prop), RelF X.K cl C F ρ E2 T σ H' → Walks X.K F J ds G → (∀ F' H'', Same F F' → Same F' H'' → (∀ j p, (none : Option Nat) = some j → σ[j]? = some (some (.ref p)) → H'' p = H' p) → G H'') → (∀ j, (none : Option Nat) = some j → ∃ o, E2[j]? = some (.own o)) → R J H') →
      ∃ a, v = .ref a ∧ ((∃ xs, SqL X.K H1 a xs ∧ R (Itl X.K a) H1) ∨ ∃ xs, SqT X.K H1 a xs ∧ R (Itt X.K a) H1) := fun {ds E2 ρ2 F2} hd R2 h => by
    have ⟨a, xs, e, k1, k2⟩ : ∃ a xs, v = .ref a ∧ SqL X.K F2 a xs ∧ DpAll X.K F2 xs ds := by
      cases hd with
      | lst h1 h2 => exact ⟨_, _, rfl, h1, h2⟩
    exact ⟨a, e, .inl ⟨xs, L2.Same.seq R2.fh k1, h _ H1 F2 ρ2 _ R2 (walks_list k2) (fun F' H'' e1 e2 _ => L2.Same.seq (L2.Same.trans e1 e2) k1) (fun _ z => nomatch z)⟩⟩
  have tup_ : ∀ {ds : List D} {E2 : SEnv} {ρ2 : Own} {F2 : Hp}, Dp X.K F2 v (.tuple ds) → RelF X.K cl C F2 ρ2 E2 T σ H1 →
      (∀ J H' F ρ (G : Hp → Prop), RelF X.K cl C F ρ E2 T σ H' → Walks X.K F J ds G → (∀ F' H'', Same F F' → Same F' H'' → (∀ j p, (none : Option Nat) = some j → σ[j]? = some (some (.ref p)) → H'' p = H' p) → G H'') → (∀ j, (none : Option Nat) = some j → ∃ o, E2[j]? = some (.own o)) → R J H') →
      ∃ a, v = .ref a ∧ ((∃ xs, SqL X.K H1 a xs ∧ R (Itl X.K a) H1) ∨ ∃ xs, SqT X.K H1 a xs ∧ R (Itt X.K a) H1) := fun {ds E2 ρ2 F2} hd R2 h => by
    have ⟨a, xs, e, k1, k2⟩ : ∃ a xs, v = .ref a ∧ SqT X.K F2 a xs ∧ DpAll X.K F2 xs ds := by
      cases hd with
      | tup h1 h2 => exact ⟨_, _, rfl, SqT.of h1, h2⟩
    exact ⟨a, e, .inr ⟨xs, Same.seqT R2.fh k1, h _ H1 F2 ρ2 _ R2 (walks_tup k2) (fun F' H'' e1 e2 _ => Same.seqT (L2.Same.trans e1 e2) k1) (fun _ z => nomatch z)⟩⟩
  split at h1
  · exact list_ (RF.tm _ _ _ at0) RF.drop h1
  · exact tup_ (RF.tm _ _ _ at0) RF.drop h1
  · rename_i ds
    obtain ⟨F', _, R', hd⟩ := RelF.take (T := T) (T2 := []) (r := .own (.lst ds)) RF b1 rfl
    exact list_ hd R'.drop h1
  · rename_i j
    have b' : σ[j]? = some (some v) := b1
    split at h1
    · rename_i ds e
      obtain ⟨x, z1, z2⟩ := RF.sl j _ _ b' e
      cases z1
      exact list_ z2 RF.drop h1
    · rename_i ds e
      obtain ⟨x, z1, z2⟩ := RF.sl j _ _ b' e
      cases z1
      exact tup_ z2 RF.drop h1
    · rename_i ds e
      obtain ⟨p, z1, ⟨u, z2, ⟨vs, rfl, hd⟩, z3, z4⟩, z5⟩ := RF.sl j _ _ b' e
      cases z1
      exact ⟨p, rfl, .inl ⟨vs, SqL.of z2, h1 _ H1 F ρ (fun H => SqL X.K H p vs) RF.drop (walks_list hd) (fun F' H'' e1 e2 e3 => SqL.of ((e3 j p rfl b').trans z2)) (fun j' z => by cases z; exact ⟨_, e⟩)⟩⟩
    · exact h1.elim
  · exact h1.elim
end
end MP

namespace MP
open PySem PySem.Spec L2

/-! ### range -/
def rangeD (lo hi : Int) : List D := (List.range (hi - lo).toNat).map fun i => PyData.int (lo + (i : Nat))
def smallI (i : Int) : Bool := decide (-(2 ^ 62) ≤ i) && decide (i < 2 ^ 62)
noncomputable def rng1F : List D → Option (List D)
  | [.int j] => if Ok (smallI j = true) then some (rangeD 0 j) else none
  | _ => none
noncomputable def rng2F : List D → Option (List D)
  | [.int i, .int j] => if Ok ((smallI i && smallI j) = true) then some (rangeD i j) else none
  | _ => none
/-- the items by arguments -/
def mRng (f : List D → Option (List D)) (ms : M (List Ret)) : MI := fun E => (ms E).bind fun rs E1 => match dats E1 rs with
  | some ds => (match f ds with
    | some its => .ok (its, none) E1
    | none => .no)
  | none => .no
theorem smallI_of {i : Int} (h : smallI i = true) : -(2 ^ 62) ≤ i ∧ i < 2 ^ 62 := by
  unfold smallI at h
  simpa using h
section
variable {X : Cx} {cl : Cl} {W : WX} {tg : Expr} {a b c e : Expr} {es : List Expr} {p pos : Pos} {ms : M (List Ret)}
theorem rng_run {f : List D → Option (List D)} {K : PySem.W.Frag} {C : Ctx} {T : List (V × Ret)} {σ : St} {E : SEnv} {P : List D × Option Nat → SEnv → Prop} (h : Run K cl W C T σ P (mRng f ms E)) :
    Run K cl W C T σ (fun rs E1 => ∃ ds its, dats E1 rs = some ds ∧ f ds = some its ∧ P (its, none) E1) (ms E) := (Run.bind h).imp fun rs E1 h1 => by
  split at h1
  · rename_i ds e1
    split at h1
    · rename_i its e2
      exact ⟨ds, its, e1, e2, h1⟩
    · exact h1.elim
  · exact h1.elim
theorem den_rng1 (hg : Gl X "range") (hm : X.mg "range" = none) (ha : PA X [a] (tMA X.K cl W ms)) (hs : starEach [a] X.env = [(false, eval a X.env)] := by rfl) : PI X tg (.Call (.Name "range" p) [a] [] pos) (tMI X.K cl W (mRng rng1F ms)) := PI.imp (pi_range1 hg hm ha hs) fun σ H R h => by
  obtain ⟨C, E, T, R0, h⟩ := h
  refine ⟨C, E, T, R0, (rng_run h).imp fun rs E1 ⟨ds, its, e1, e2, h1⟩ vs H1 R1 b1 => ?_⟩
  obtain ⟨F, ρ, RF⟩ := R1
  have hd := RF.dats rfl b1 e1
  unfold rng1F at e2
  split at e2
  · rename_i j
    split at e2
    · rename_i hj
      cases e2
      obtain ⟨v, rfl, e⟩ : ∃ v, vs = [v] ∧ DpT X.K F H1 v (.int j) := by
        cases hd with
        | cons x y => cases y; exact ⟨_, rfl, x⟩
      cases (show Dp X.K F v _ from e)
      obtain ⟨k1, k2⟩ := smallI_of hj
      refine ⟨j, rfl, k1, k2, h1 _ H1 F ρ (fun _ => True) RF.drop ?_ (fun _ _ _ _ _ => trivial) (fun _ z => nomatch z)⟩
      have := walks_range (K := X.K) (F := F) (lo := 0) (n := j.toNat)
      unfold rangeD
      rw [Int.sub_zero]
      exact this
    · cases e2
  · cases e2
theorem den_rng2 (hg : Gl X "range") (hm : X.mg "range" = none) (ha : PA X [a, b] (tMA X.K cl W ms)) (hs : starEach [a, b] X.env = [(false, eval a X.env), (false, eval b X.env)] := by rfl) (hs2 : starEach [b] X.env = [(false, eval b X.env)] := by rfl) : PI X tg (.Call (.Name "range" p) [a, b] [] pos) (tMI X.K cl W (mRng rng2F ms)) := PI.imp (pi_range2 hg hm ha hs hs2) fun σ H R h => by
  obtain ⟨C, E, T, R0, h⟩ := h
  refine ⟨C, E, T, R0, (rng_run h).imp fun rs E1 ⟨ds, its, e1, e2, h1⟩ vs H1 R1 b1 => ?_⟩
  obtain ⟨F, ρ, RF⟩ := R1
  have hd := RF.dats rfl b1 e1
  unfold rng2F at e2
  split at e2
  · rename_i i j
    split at e2
    · rename_i hj
      cases e2
      obtain ⟨v, w, rfl, e, e'⟩ : ∃ v w, vs = [v, w] ∧ DpT X.K F H1 v (.int i) ∧ DpT X.K F H1 w (.int j) := by
        cases hd with
        | cons x y =>
          cases y with
          | cons x' y' => cases y'; exact ⟨_, _, rfl, x, x'⟩
      cases (show Dp X.K F v _ from e)
      cases (show Dp X.K F w _ from e')
      have hj' := Bool.and_eq_true_iff.mp hj
      obtain ⟨k1, k2⟩ := smallI_of hj'.1
      obtain ⟨k3, k4⟩ := smallI_of hj'.2
      exact ⟨i, j, rfl, ⟨k1, k2, k3, k4⟩, h1 _ H1 F ρ (fun _ => True) RF.drop walks_range (fun _ _ _ _ _ => trivial) (fun _ z => nomatch z)⟩
    · cases e2
  · cases e2
/-- range with a step: n items -/
noncomputable def rng3F : List D → Option (List D)
  | [.int i, .int j, .int c] => if Ok (c ≠ 0 ∧ c.natAbs < 1073741824 ∧ Builtin.Range.small i j c = true ∧ 0 ≤ Builtin.Range.rangeSize i j c) then some ((List.range (Builtin.Range.rangeSize i j c).toNat).map fun k => PyData.int (i + (k : Nat) * c)) else none
  | _ => none
theorem walks_rangeC {K : PySem.W.Frag} {F : Hp} {lo c : Int} {n : Nat} : Walks K F (Itc lo c n) ((List.range n).map fun i => PyData.int (lo + (i : Nat) * c)) (fun _ => True) where
  goes := fun i H hi g => by show i < n; simpa using hi
  stops := fun H g => by show n ≤ _; simp
  yields := fun i d H x H' e g y => by
    obtain ⟨rfl, rfl⟩ := y
    rw [List.getElem?_map] at e
    cases q : (List.range n)[i]? with
    | none => rw [q] at e; cases e
    | some k =>
      rw [q] at e
      cases e
      obtain ⟨_, rfl⟩ := List.getElem?_eq_some_iff.mp q
      exact .inl ⟨rfl, by simpa using Dp.int _⟩
theorem den_rng3 (hg : Gl X "range") (hm : X.mg "range" = none) (ha : PA X [a, b, c] (tMA X.K cl W ms)) (hs : starEach [a, b, c] X.env = (false, eval a X.env) :: starEach [b, c] X.env := by rfl) (hpl : (backTo pos (starEach [b, c] X.env)).any (·.1) = false := by rfl) : PI X tg (.Call (.Name "range" p) [a, b, c] [] pos) (tMI X.K cl W (mRng rng3F ms)) := PI.imp (pi_range3 hg hm ha hs hpl) fun σ H R h => by
  obtain ⟨C, E, T, R0, h⟩ := h
  refine ⟨C, E, T, R0, (rng_run h).imp fun rs E1 ⟨ds, its, e1, e2, h1⟩ vs H1 R1 b1 => ?_⟩
  obtain ⟨F, ρ, RF⟩ := R1
  have hd := RF.dats rfl b1 e1
  unfold rng3F at e2
  split at e2
  · rename_i i j c
    split at e2
    · rename_i hj
      cases e2
      obtain ⟨v, w, u, rfl, e, e', e''⟩ : ∃ v w u, vs = [v, w, u] ∧ DpT X.K F H1 v (.int i) ∧ DpT X.K F H1 w (.int j) ∧ DpT X.K F H1 u (.int c) := by
        cases hd with
        | cons x y =>
          cases y with
          | cons x' y' =>
            cases y' with
            | cons x'' y'' => cases y''; exact ⟨_, _, _, rfl, x, x', x''⟩
      cases (show Dp X.K F v _ from e)
      cases (show Dp X.K F w _ from e')
      cases (show Dp X.K F u _ from e'')
      obtain ⟨k1, k2, k3, k4⟩ := hj
      exact ⟨i, j, c, _, rfl, ⟨k1, k2, k3, (Int.toNat_of_nonneg k4).symm⟩, h1 _ H1 F ρ (fun _ => True) RF.drop walks_rangeC (fun _ _ _ _ _ => trivial) (fun _ z => nomatch z)⟩
    · cases e2
  · cases e2
end

/-! ### list comprehensions -/
def noEx {α : Type} : Res α → Res α
  | .ok a E => .ok a E
  | _ => .no
def canHide : Slot → Bool
  | .un => true
  | .val _ => true
  | .exc _ => true
  | _ => false
noncomputable def mLcL (st : D → SEnv → Option SEnv) (wp : SEnv → Option SEnv) (mt : M Bool) (me : M Ret) : List D → List D → SEnv → Res (List D)
  | [], acc, E => .ok acc E
  | d :: ds, acc, E => match st d E with
    | none => .no
    | some E0 => (noEx (mt E0)).bind fun b E1 => if b = true then (noEx (me E1)).bind fun r E2 => (match take E2 r with
        | some (y, E3) => if Ok (acc.length < 1000000) then (match wp E3 with
          | some E4 => mLcL st wp mt me ds (acc ++ [y]) E4
          | none => .no) else .no
        | none => .no) else (match wp E1 with
          | some E4 => mLcL st wp mt me ds acc E4
          | none => .no)
/-- the comprehension's own names, at the slots vs -/
def wipeE : List Nat → SEnv → SEnv
  | [], E => E
  | i :: vs, E => (wipeE vs E).set i .un
def isFree (E : SEnv) (i : Nat) : Bool := match E[i]? with
  | some s => s.free
  | none => false
def isHid (E : SEnv) (i : Nat) : Bool := match E[i]? with
  | some s => canHide s
  | none => false
def wpE (vs : List Nat) (E : SEnv) : Option SEnv := if vs.all (isFree E) = true then some (wipeE vs E) else none
def restE (E1 : SEnv) : List Nat → SEnv → SEnv
  | [], E => E
  | i :: vs, E => restE E1 vs (E.set i (E1.getD i .un))
def mYes : M Bool := fun E => .ok true E
noncomputable def mLc (vs : List Nat) (st : D → SEnv → Option SEnv) (mi : MI) (mt : M Bool) (me : M Ret) : M Ret := fun E => (mi E).bind fun il E1 => if vs.all (isHid E1) = true then (unlockX il.2 (mLcL st (wpE vs) mt me il.1 [] (wipeE vs (lockE E1 il.2)))).bind fun ds E3 => .ok (.own (.lst ds)) (restE E1 vs E3) else .no
def st1 (i : Nat) (d : D) (E : SEnv) : Option SEnv := some (E.set i (.val d))
def st2 (i j : Nat) (d : D) (E : SEnv) : Option SEnv := match d with
  | .tuple [a, b] => some ((E.set i (.val a)).set j (.val b))
  | _ => none
section
variable {K : PySem.W.Frag} {cl : Cl} {C : Ctx} {F F' : Hp} {ρ ρ' : Own} {E E' : SEnv} {T T' : List (V × Ret)} {σ σ' : St} {H H' : Hp} {i j k : Nat} {p : Addr} {v : V} {r : Ret} {o : MO} {d : D}
/-- a slot is forgotten, or takes data -/
theorem RelF.put {s s' : Slot} {w : Option V} (R : RelF K cl C F ρ E T σ H) (e : E[i]? = some s) (hs : s.free = true) (new : SlotOk K cl C F ρ H i w s') : RelF K cl C F ρ (E.set i s') T (σ.set i w) H where
  len := by simpa using R.len
  f0 := R.f0
  fh := R.fh
  h0 := R.h0
  hf := R.hf
  tb := R.tb
  nt := R.nt
  sl := fun j w u e1 e2 => by
    rcases set_cases e2 with ⟨rfl, rfl, _⟩ | ⟨n, e2⟩
    · rcases set_cases e1 with ⟨_, rfl, _⟩ | ⟨n, _⟩
      · exact new
      · exact absurd rfl n
    · rw [List.getElem?_set_ne (Ne.symm n)] at e1
      exact R.sl j w u e1 e2
  ln := fun j p e1 => by
    obtain ⟨o, h1, h2⟩ := R.ln j p e1
    have n : j ≠ i := fun z => by subst z; rw [e] at h1; cases h1; cases hs
    exact ⟨o, by rw [List.getElem?_set_ne (Ne.symm n)]; exact h1, by rw [List.getElem?_set_ne (Ne.symm n)]; exact h2⟩
  tm := R.tm
/-- a temporary list grows -/
theorem RelF.mut_tmp {o' : MO} {ho' : HO} (R : RelF K cl C F ρ E (T ++ [(.ref p, .own o)]) σ H) (m : MRep K F ho' o') : RelF K cl C F ρ E (T ++ [(.ref p, .own o')]) σ (upd H p ho') := by
  obtain ⟨p', e1, h1, h2⟩ := R.tm T.length (.ref p) (.own o) (by simp)
  cases e1
  have hq : ∀ g, g ≠ Tag.t T.length → ∀ q o, OwnAt K F ρ H g q o → OwnAt K F ρ (upd H p ho') g q o := fun g n q o h' =>
    h'.grow (L2.Same.refl F) (fun u e => by rw [upd_ne (h'.apart h1 n)]; exact e) h'.fn rfl
  refine { len := R.len, f0 := R.f0, fh := fun q u e' => ?_, h0 := fun q u e' l => ?_, hf := R.hf, tb := ⟨let ⟨_, e0, m0, _⟩ := h1; tabs_mut R.tb.1 e0 m0, R.tb.2⟩, nt := R.nt, sl := fun j w s e1 e2 => (R.sl j w s e1 e2).grow (L2.Same.refl F) (hq _ fun z => by cases z), ln := R.ln, tm := fun k w r e' => ?_ }
  · rw [upd_ne (ne_of_none e' h1.fn)]; exact R.fh q u e'
  · rw [upd_ne (ne_of_none e' h2)]; exact R.h0 q u e' l
  · rcases at_snoc e' with e2 | ⟨hk, e2⟩
    · have hlt := (List.getElem?_eq_some_iff.mp e2).1
      exact (R.tm k w r (by rw [List.getElem?_append_left hlt]; exact e2)).grow (L2.Same.refl F) (hq _ fun z => by cases z; exact Nat.lt_irrefl _ hlt)
    · cases e2
      subst hk
      exact ⟨p, rfl, ⟨ho', upd_same, m, h1.fn, h1.tag⟩, h2⟩
theorem noEx_run {α : Type} {W W' : WX} {P : α → SEnv → Prop} {r : Res α} (h : Run K cl W C T σ P (noEx r)) : Run K cl W' C T' σ' P r := by
  cases r with
  | ok a E => exact h
  | ex x E => exact h.elim
  | no => exact h
theorem Locked.run1 {α : Type} {P : α → SEnv → Prop} {lk : Option Nat} {C' : Ctx} {W : WX} {r : Res α} (h : Run K cl W C T σ P (unlockX lk r)) (hx : ∀ x E, r ≠ .ex x E) : Run K cl W C' T' σ' (fun a E => ∃ E', unlockE E lk = some E' ∧ P a E') r := by
  cases r with
  | no => exact h
  | ex x E' => exact absurd rfl (hx x E')
  | ok f E' =>
    unfold unlockX at h
    dsimp only at h
    split at h
    · rename_i E'' e
      exact ⟨E'', e, h⟩
    · exact h.elim
end
theorem noEx_ne {α : Type} {r : Res α} {x : Exn} {E : SEnv} : noEx r ≠ .ex x E := by cases r <;> intro h <;> cases h
theorem lcl_ne {st : D → SEnv → Option SEnv} {wp : SEnv → Option SEnv} {mt : M Bool} {me : M Ret} {x : Exn} {E' : SEnv} : ∀ {ds acc : List D} {E : SEnv}, mLcL st wp mt me ds acc E ≠ .ex x E'
  | [], acc, E, h => by cases h
  | d :: ds, acc, E, h => by
    unfold mLcL at h
    split at h
    · cases h
    · rename_i E0 _
      cases q : noEx (mt E0) with
      | no => rw [q] at h; cases h
      | ex x E => exact noEx_ne q
      | ok b E1 =>
        rw [q] at h
        simp only [bind_ok] at h
        split at h
        · cases q2 : noEx (me E1) with
          | no => rw [q2] at h; cases h
          | ex x E => exact noEx_ne q2
          | ok r E2 =>
            rw [q2] at h
            simp only [bind_ok] at h
            split at h
            · split at h
              · split at h
                · exact lcl_ne h
                · cases h
              · cases h
            · cases h
        · split at h
          · exact lcl_ne h
          · cases h
abbrev W0 : WX := fun _ _ _ _ => False
/-- what a comprehension's target must do -/
def StOk (K : PySem.W.Frag) (cl : Cl) (g : TG) (st : D → SEnv → Option SEnv) (vs : List Nat) : Prop :=
  ∀ (C : Ctx) (F : Hp) (ρ : Own) (E E0 : SEnv) (T : List (V × Ret)) (σ : St) (H : Hp) (x : V) (d : D) (Q : St → Hp → Prop), RelF K cl C F ρ E T (wipe σ vs) H → Dp K F x d → (∀ i ∈ vs, E[i]? = some .un) → st d E = some E0 →
    (∀ σ2, wipe σ2 vs = wipe σ vs → Rel K cl C E0 T σ2 H → Q σ2 H) → g x (wipe σ vs) H Q
section
variable {K : PySem.W.Frag} {cl : Cl} {C : Ctx} {F F' : Hp} {ρ ρ' : Own} {E E' : SEnv} {T T' : List (V × Ret)} {σ σ' : St} {H H' : Hp} {i j k : Nat} {p : Addr} {v : V} {r : Ret} {o : MO} {d : D}
theorem stOk1 (i : Nat) : StOk K cl (gName i) (st1 i) [i] := fun C F ρ E E0 T σ H x d Q R hd hu e h => by
  cases e
  refine h _ ?_ (R.put (hu i (by simp)) rfl (w := some x) (s' := .val d) ⟨x, rfl, hd⟩).rel
  show ((σ.set i none).set i (some x)).set i none = σ.set i none
  rw [List.set_set, List.set_set]
theorem set_swap {α : Type} {l : List α} {i j : Nat} {x y : α} (h : i ≠ j) : (l.set i x).set j y = (l.set j y).set i x := List.set_comm x y h
theorem stOk2 (i j : Nat) (hij : i ≠ j) : StOk K cl (gTup K 2 (gCons (gName i) (gCons (gName j) gNil))) (st2 i j) [i, j] := fun C F ρ E E0 T σ H x d Q R hd hu e h => by
  unfold st2 at e
  split at e
  · rename_i a b
    cases e
    obtain ⟨q, x1, x2, rfl, h1, h2, h3⟩ : ∃ q x1 x2, x = .ref q ∧ SqT K F q [x1, x2] ∧ Dp K F x1 a ∧ Dp K F x2 b := by
      cases hd with
      | tup h1 h2 =>
        cases h2 with
        | cons g1 g2 =>
          cases g2 with
          | cons g3 g4 => cases g4; exact ⟨_, _, _, rfl, SqT.of h1, g1, g3⟩
    refine ⟨q, _, rfl, Same.seqT R.fh h1, rfl, x1, [x2], rfl, x2, [], rfl, rfl, ?_⟩
    refine h _ ?_ ((R.put (hu i (by simp)) rfl (w := some x1) (s' := .val a) ⟨x1, rfl, h2⟩).put (s := .un) (by rw [List.getElem?_set_ne hij]; exact hu j (by simp)) rfl (w := some x2) (s' := .val b) ⟨x2, rfl, h3⟩).rel
    show (((((σ.set j none).set i none).set i (some x1)).set j (some x2)).set j none).set i none = (σ.set j none).set i none
    rw [List.set_set, List.set_set, set_swap hij, List.set_set, List.set_set]
  · cases e
theorem free_at (h : isFree E i = true) : ∃ s, E[i]? = some s ∧ s.free = true := by
  unfold isFree at h
  split at h
  · rename_i s e; exact ⟨s, e, h⟩
  · cases h
theorem hid_at (h : isHid E i = true) : ∃ s, E[i]? = some s ∧ canHide s = true := by
  unfold isHid at h
  split at h
  · rename_i s e; exact ⟨s, e, h⟩
  · cases h
theorem free_of_hid (h : isHid E i = true) : isFree E i = true := by
  obtain ⟨s, e, hs⟩ := hid_at h
  unfold isFree
  rw [e]
  cases s <;> first | rfl | cases hs
theorem wipeE_len : ∀ (vs : List Nat) (E : SEnv), (wipeE vs E).length = E.length
  | [], E => rfl
  | i :: vs, E => by show ((wipeE vs E).set i .un).length = _; rw [List.length_set, wipeE_len vs E]
theorem wipeE_at : ∀ (vs : List Nat) (E : SEnv) (i : Nat), i ∈ vs → i < E.length → (wipeE vs E)[i]? = some .un
  | i :: vs, E, j, h, hl => by
    show ((wipeE vs E).set i .un)[j]? = _
    by_cases e : j = i
    · subst e; rw [List.getElem?_set_self (by rw [wipeE_len]; exact hl)]
    · rw [List.getElem?_set_ne (Ne.symm e)]
      exact wipeE_at vs E j ((List.mem_cons.mp h).resolve_left e) hl
theorem wipeE_other : ∀ (vs : List Nat) (E : SEnv) (i : Nat), i ∉ vs → (wipeE vs E)[i]? = E[i]?
  | [], E, i, h => rfl
  | k :: vs, E, j, h => by
    show ((wipeE vs E).set k .un)[j]? = _
    rw [List.getElem?_set_ne (fun e => h (by rw [e]; exact List.mem_cons_self))]
    exact wipeE_other vs E j fun z => h (List.mem_cons_of_mem _ z)
/-- the slots vs are forgotten -/
theorem RelF.wipes (R : RelF K cl C F ρ E T σ H) : ∀ (vs : List Nat), (∀ i ∈ vs, isFree E i = true) → RelF K cl C F ρ (wipeE vs E) T (wipe σ vs) H
  | [], _ => R
  | i :: vs, h => by
    have R1 := RelF.wipes R vs fun j hj => h j (List.mem_cons_of_mem _ hj)
    obtain ⟨s, e, hs⟩ := free_at (h i List.mem_cons_self)
    by_cases hi : i ∈ vs
    · exact R1.put (wipeE_at vs E i hi (List.getElem?_eq_some_iff.mp e).1) rfl trivial
    · exact R1.put (by rw [wipeE_other vs E i hi]; exact e) hs trivial
theorem wipe_other : ∀ (vs : List Nat) (σ : St) (i : Nat), i ∉ vs → (wipe σ vs)[i]? = σ[i]?
  | [], σ, i, h => rfl
  | k :: vs, σ, j, h => by
    show ((wipe σ vs).set k none)[j]? = _
    rw [List.getElem?_set_ne (fun e => h (by rw [e]; exact List.mem_cons_self))]
    exact wipe_other vs σ j fun z => h (List.mem_cons_of_mem _ z)
theorem set_at {α : Type} {l : List α} {i : Nat} {x : α} (h : l[i]? = some x) : l.set i x = l := by
  apply List.ext_getElem?
  intro n
  by_cases e : n = i
  · subst e; rw [List.getElem?_set_self (List.getElem?_eq_some_iff.mp h).1, h]
  · rw [List.getElem?_set_ne (Ne.symm e)]
/-- they come back -/
theorem RelF.rest {E1 : SEnv} : ∀ (vs : List Nat) (E : SEnv), vs.Nodup → RelF K cl C F ρ E T (wipe σ vs) H → (∀ i ∈ vs, ∃ s w, E1[i]? = some s ∧ σ[i]? = some w ∧ SlotOk K cl C F ρ H i w s) → (∀ i ∈ vs, isFree E i = true) → RelF K cl C F ρ (restE E1 vs E) T σ H
  | [], E, _, R, _, _ => R
  | i :: vs, E, hn, R, h, hf => by
    obtain ⟨s, w, e1, e2, so⟩ := h i List.mem_cons_self
    obtain ⟨s', e3, hs⟩ := free_at (hf i List.mem_cons_self)
    have hn' := List.nodup_cons.mp hn
    have R1 := R.put e3 hs so
    have eσ : (wipe σ (i :: vs)).set i w = wipe σ vs := by
      show ((wipe σ vs).set i none).set i w = _
      rw [List.set_set]
      exact set_at (by rw [wipe_other vs σ i hn'.1]; exact e2)
    rw [eσ] at R1
    have eg : E1.getD i .un = s := by rw [List.getD_eq_getElem?_getD, e1]; rfl
    show RelF K cl C F ρ (restE E1 vs (E.set i (E1.getD i .un))) T σ H
    rw [eg]
    refine RelF.rest vs _ hn'.2 R1 (fun j hj => h j (List.mem_cons_of_mem _ hj)) fun j hj => ?_
    have nj : j ≠ i := fun z => hn'.1 (z ▸ hj)
    unfold isFree
    rw [List.getElem?_set_ne (Ne.symm nj)]
    exact hf j (List.mem_cons_of_mem _ hj)
theorem SlotOk.hid {s : Slot} {w : Option V} (h : SlotOk K cl C F ρ H i w s) (hs : canHide s = true) (e : Same F F') : SlotOk K cl C F' ρ' H' i w s := by
  cases s with
  | un => trivial
  | val d => obtain ⟨x, e1, h1⟩ := h; exact ⟨x, e1, dp_mono e h1⟩
  | exc x => obtain ⟨a, e1, h1⟩ := h; exact ⟨a, e1, excOk_mono e h1⟩
  | fn o => cases hs
  | nst b o => cases hs
  | own o => cases hs
  | lnt o => cases hs
  | lck o => cases hs
end
section
variable {X : Cx} {cl : Cl} {W : WX}
theorem tLc_of {vs : List Nat} {g : TG} {st : D → SEnv → Option SEnv} {mi : MI} {mt : M Bool} {me : M Ret} (K : PySem.W.Frag) (hst : StOk K cl g st vs) (hnd : vs.Nodup) {σ : St} {H : Hp} {Q : VK} (h : tM K cl W (mLc vs st mi mt me) σ H Q) : tLc (tMI K cl W mi) g (tMT K cl W0 mt) (tM K cl W0 me) vs σ H Q := by
  obtain ⟨C, E, T, R, h⟩ := h
  refine ⟨C, E, T, R, (Run.bind h).imp fun il E1 h1 J H1 F ρ G R1 wk hG hl D hD => ?_⟩
  obtain ⟨its, lk⟩ := il
  by_cases hs : vs.all (isHid E1) = true
  case neg => rw [if_neg hs] at h1; exact h1.elim
  rw [if_pos hs] at h1
  have hhid : ∀ i ∈ vs, isHid E1 i = true := List.all_eq_true.mp hs
  -- the locked state
  obtain ⟨C', R2, L⟩ := R1.locks hl
  have h2 := Locked.run1 (C' := C') (T' := T) (σ' := wipe σ vs) (Run.bind h1) (fun x E => lcl_ne)
  clear h1 h R
  have hij : ∀ j, lk = some j → j ∉ vs := fun j e z => by
    obtain ⟨o, e2⟩ := hl j e
    obtain ⟨s, e3, hs⟩ := hid_at (hhid j z)
    rw [e2] at e3; cases e3; cases hs
  have esL : ∀ i ∈ vs, (lockE E1 lk)[i]? = E1[i]? := fun i hi => by
    cases lk with
    | none => rfl
    | some j =>
      obtain ⟨o, e2⟩ := hl j rfl
      have q : lockE E1 (some j) = E1.set j (.lck o) := by simp only [lockE]; rw [e2]
      rw [q, List.getElem?_set_ne (fun (z : j = i) => hij j rfl (by rw [z]; exact hi))]
  obtain ⟨F2, ρ2, R2'⟩ := R2
  have hfreeL : ∀ i ∈ vs, isFree (lockE E1 lk) i = true := fun i hi => by
    have := free_of_hid (hhid i hi)
    unfold isFree at this ⊢
    rw [esL i hi]; exact this
  -- the walk
  have kG : ∀ {E T' σ' H'}, Rel K cl C' E T' σ' H' → G H' := fun {E T' σ' H'} R => by
    obtain ⟨F', ρ', R'⟩ := R
    exact hG F' H' (by rw [← L.f0]; exact R'.f0) R'.fh (fun j p e1 e2 => L.keep _ _ _ _ _ _ R' j p e1 e2)
  have R3 : Rel K cl C' (wipeE vs (lockE E1 lk)) (T ++ [(.ref D, .own (.lst []))]) (wipe σ vs) (upd H1 D (.lst [])) := ((R2'.wipes vs hfreeL).push_own hD (o := .lst []) ⟨[], rfl, .nil⟩).rel
  have top : ∀ {E : SEnv}, (∀ i ∈ vs, isFree E i = true) → ∀ i ∈ vs, (wipeE vs E)[i]? = some .un := fun {E} h i hi => by
    obtain ⟨s, e, _⟩ := free_at (h i hi)
    exact wipeE_at vs E i hi (List.getElem?_eq_some_iff.mp e).1
  let Fin : List MP.D → SEnv → Prop := fun a E' => ∃ E'', unlockE E' lk = some E'' ∧ Run K cl W C T σ (fun r E' => ∀ v H', Rel K cl C E' (T ++ [(v, r)]) σ H' → Bor σ v r → Q v H') ((fun ds E3 => Res.ok (Ret.own (.lst ds)) (restE E1 vs E3)) a E'')
  let Inv' : Nat → Hp → Prop := fun k H' => ∃ E acc, Rel K cl C' E (T ++ [(.ref D, .own (.lst acc))]) (wipe σ vs) H' ∧ (∀ i ∈ vs, E[i]? = some .un) ∧ Run K cl W C' T (wipe σ vs) Fin (mLcL st (wpE vs) mt me (its.drop k) acc E)
  refine ⟨fun k n H' => n = its.length - k ∧ k ≤ its.length ∧ Inv' k H', ⟨its.length, by simp, Nat.zero_le _, _, [], R3, top hfreeL, by simpa using h2⟩, ?_⟩
  rintro k n H' ⟨rfl, hk, E, acc, R4, hun, h4⟩
  by_cases hlt : k < its.length
  · refine .inr ⟨wk.goes k H' hlt (kG R4), Inv' (k + 1), fun H' q => ⟨its.length - (k + 1), by omega, rfl, hlt, q⟩, fun x H2 y => ?_⟩
    rw [List.drop_eq_getElem_cons hlt] at h4
    unfold mLcL at h4
    split at h4
    · exact h4.elim
    rename_i E0 e0
    -- the item in its slot
    obtain ⟨F4, ρ4, R4'⟩ := id R4
    have fs : Same F F4 := by rw [← L.f0]; exact R4'.f0
    have go : ∀ {F5 : Hp} {ρ5 : Own}, RelF K cl C' F5 ρ5 E (T ++ [(.ref D, .own (.lst acc))]) (wipe σ vs) H2 → Dp K F5 x its[k] → g x (wipe σ vs) H2 fun σ2 H2 => wipe σ2 vs = wipe σ vs ∧ tMT K cl W0 mt σ2 H2 fun b H3 =>
        if b = true then tM K cl W0 me σ2 H3 fun y H4 => ∃ acc, H4 D = some (.lst acc) ∧ acc.length < sizeLine ∧ Inv' (k + 1) (upd H4 D (.lst (acc ++ [y]))) else Inv' (k + 1) H3 := fun {F5 ρ5} R5 hd => by
      refine hst C' F5 ρ5 E E0 _ σ H2 x its[k] _ R5 hd hun e0 fun σ2 hw R6 => ⟨hw, C', E0, _, R6, noEx_run ((Run.bind h4).imp fun b E6 h5 H3 R7 => ?_)⟩
      have frees : ∀ {E : SEnv}, vs.all (isFree E) = true → ∀ i ∈ vs, isFree E i = true := fun h => List.all_eq_true.mp h
      dsimp only
      by_cases hb : b = true
      · rw [if_pos hb] at h5 ⊢
        refine ⟨C', E6, _, R7, noEx_run ((Run.bind h5).imp fun r E7 h6 y7 H4 R8 b8 => ?_)⟩
        split at h6
        · rename_i y E8 e8
          split at h6
          · rename_i hacc
            split at h6
            · rename_i E9 e9
              unfold wpE at e9
              split at e9
              · rename_i hfr
                cases e9
                obtain ⟨F8, ρ8, R8'⟩ := R8
                obtain ⟨F9, f9, R9, d9⟩ := RelF.take (T := T ++ [(.ref D, .own (.lst acc))]) (T2 := []) R8' b8 e8
                have R9' := R9.drop
                obtain ⟨p, ep, ⟨ho, hh, ⟨ws, rfl, hd9⟩, hf9, ht9⟩, h09⟩ := R9'.tm T.length (.ref D) (.own (.lst acc)) (by simp)
                cases ep
                refine ⟨ws, hh, by rw [dps_len hd9]; exact Nat.lt_of_lt_of_le hacc (by rw [sizeLine_eq]; decide), ?_⟩
                have R10 := (R9'.mut_tmp (o' := .lst (acc ++ [y])) (ho' := .lst (ws ++ [y7])) ⟨_, rfl, dps_app hd9 (.cons d9 .nil)⟩).wipes vs (frees hfr)
                rw [hw] at R10
                exact ⟨_, _, R10.rel, top (frees hfr), h6⟩
              · cases e9
            · exact h6.elim
          · exact h6.elim
        · exact h6.elim
      · rw [if_neg hb] at h5 ⊢
        split at h5
        · rename_i E9 e9
          unfold wpE at e9
          split at e9
          · rename_i hfr
            cases e9
            obtain ⟨F7, ρ7, R7'⟩ := R7
            have R10 := R7'.wipes vs (frees hfr)
            rw [hw] at R10
            exact ⟨_, _, R10.rel, top (frees hfr), h5⟩
          · cases e9
        · exact h5.elim
    rcases wk.yields k its[k] H' x H2 (List.getElem?_eq_getElem hlt) (kG R4) y with ⟨rfl, hd⟩ | ⟨p, us, ds, e, rfl, hn, rfl, hd⟩
    · exact go R4' (dp_mono fs hd)
    · obtain ⟨R6, f6⟩ := R4'.lay hn (.tup us)
      refine go R6 ?_
      rw [e]
      exact .tup upd_same (dps_mono f6 (dps_mono fs hd))
  · have e : k = its.length := by omega
    subst e
    rw [List.drop_length] at h4
    obtain ⟨E'', e1, h5⟩ := (h4 : Fin acc E)
    refine .inl ⟨wk.stops H' (kG R4), ?_⟩
    obtain ⟨F4, ρ4, R4'⟩ := id R4
    have fs : Same F F4 := by rw [← L.f0]; exact R4'.f0
    have R5 := L.un _ _ _ _ _ _ _ R4' e1
    have un'' : ∀ i ∈ vs, E''[i]? = some .un := fun i hi => by
      cases lk with
      | none => cases e1; exact hun i hi
      | some j =>
        simp only [unlockE] at e1
        split at e1
        · cases e1
          rw [List.getElem?_set_ne (fun (z : j = i) => hij j rfl (by rw [z]; exact hi))]
          exact hun i hi
        · cases e1
    have R6 := R5.rest (E1 := E1) vs E'' hnd (fun i hi => by
      obtain ⟨s, e2, hs⟩ := hid_at (hhid i hi)
      obtain ⟨w, hw⟩ := slot_there R1 e2
      exact ⟨s, w, e2, hw, (R1.sl i w s hw e2).hid hs fs⟩) (fun i hi => by unfold isFree; rw [un'' i hi]; rfl)
    exact h5 (.ref D) H' R6.rel trivial
/-- the block's rules stand around -/
theorem den_lc {elt tg iter : Expr} {ifs : List Expr} {scope : Scope} {own : List (Str × Nat)} {pos : Pos} {g : TG} {st : D → SEnv → Option SEnv} {mi : MI} {mt : M Bool} {me : M Ret} (hc : X.calm = true) (hN : X.N.Nodup) (hst : StOk X.K cl g st (own.map (·.2))) (hnd : (own.map (·.2)).Nodup) (hi : PI X tg iter (tMI X.K cl W mi)) (ok : BlkOk X.N X.env.scope scope own)
    (hg : ∀ (s : Shared) (H : Hp) (C : Addr) (cl : List (Str × Addr)) (fp : List Addr), PG (X.blk s H scope (compEnvC scope cl C X.env) fp) tg g) (ht : ∀ (s : Shared) (H : Hp) (C : Addr) (cl' : List (Str × Addr)) (fp : List Addr), PTs (X.blk s H scope (compEnvC scope cl' C X.env) fp) ifs (tMT X.K cl W0 mt))
    (he : ∀ (s : Shared) (H : Hp) (C : Addr) (cl' : List (Str × Addr)) (fp : List Addr), PE (X.blk s H scope (compEnvC scope cl' C X.env) fp) elt (tM X.K cl W0 me)) (hs : ∀ x, foldedSetIterable iter X.env x = pure x := by intro _; rfl) :
    PE X (.ListComp elt [⟨tg, iter, ifs, 0⟩] scope pos) (tM X.K cl W (mLc (own.map (·.2)) st mi mt me)) := PE.imp (pe_lc hc hN hi ok hg ht he hs) fun σ H Q h => tLc_of X.K hst hnd h
theorem den_setLc (i : Nat) {y : Str} {py : Pos} {elt tg iter : Expr} {ifs : List Expr} {scope : Scope} {own : List (Str × Nat)} {pos spos : Pos} {g : TG} {st : D → SEnv → Option SEnv} {mi : MI} {mt : M Bool} {me : M Ret} (hc : X.calm = true) (hN : X.N.Nodup) (hst : StOk X.K cl g st (own.map (·.2))) (hnd : (own.map (·.2)).Nodup) (hyl : X.env.scope.names.lookup y = some .local)
    (hsw : swapsWith (.ListComp elt [⟨tg, iter, ifs, 0⟩] scope pos) (some (.Name y py)) spos.line X.env = pure true) (hi : PI X tg iter (tMI X.K cl W mi)) (ok : BlkOk X.N X.env.scope scope own)
    (hg : ∀ (s : Shared) (H : Hp) (C : Addr) (cl : List (Str × Addr)) (fp : List Addr), PG (X.blk s H scope (compEnvC scope cl C X.env) fp) tg g) (ht : ∀ (s : Shared) (H : Hp) (C : Addr) (cl' : List (Str × Addr)) (fp : List Addr), PTs (X.blk s H scope (compEnvC scope cl' C X.env) fp) ifs (tMT X.K cl W0 mt))
    (he : ∀ (s : Shared) (H : Hp) (C : Addr) (cl' : List (Str × Addr)) (fp : List Addr), PE (X.blk s H scope (compEnvC scope cl' C X.env) fp) elt (tM X.K cl W0 me)) (hy : X.N[i]? = some y := by rfl) (hs : ∀ x, foldedSetIterable iter X.env x = pure x := by intro _; rfl) :
    PS X (.Assign [.Name y py] (.ListComp elt [⟨tg, iter, ifs, 0⟩] scope pos) spos) (tMS X.K cl W (mSet i (mLc (own.map (·.2)) st mi mt me))) := PS.imp (ps_setLc hc hN hy hyl hsw hi ok hg ht he hs) fun D σ H h => by
  have h' := tS_first h
  refine tLc_of X.K hst hnd ?_
  obtain ⟨C, E, T, R, hr⟩ := h'
  refine ⟨C, E, T, R, hr.imp fun r E1 k v H1 R1 b1 => ?_⟩
  obtain ⟨C2, T2, r2, E2, R2, b2, h2⟩ := k v H1 R1 b1
  cases q : mStore i r2 E2 with
  | some E3 =>
    rw [q] at h2
    obtain ⟨F, ρ, RF⟩ := R2
    obtain ⟨F', ρ', _, R'⟩ := RF.store b2 q
    exact h2 _ _ R'.rel
  | none => rw [q] at h2; exact (h2 : False).elim
theorem den_yes {Y : Cx} {K : PySem.W.Frag} : PTs Y [] (tMT K cl W0 mYes) := ⟨fun pins s σ H Q I h => by
  obtain ⟨C, E, T, R, h⟩ := h
  exact pts_nil.run pins s σ H Q I (h H R)⟩
theorem den_onlyif {Y : Cx} {c : Expr} {K : PySem.W.Frag} {t : M Bool} (h : PT Y c (tMT K cl W0 t)) : PTs Y [c] (tMT K cl W0 t) := pts_one h
end

/-! ### a def's call -/
def mCall (g : List D → FR) (ms : M (List Ret)) : M Ret := fun E => (ms E).bind fun rs E1 => match dats E1 rs with
  | none => .no
  | some ds => (match g ds with
    | .no => .no
    | .ex x => .ex x E1
    | .ok v => if v.pure = true then .ok v.ret E1 else (match takes E1 rs with
      | some (_, E2) => .ok v.ret E2
      | none => .no))
section
variable {K : PySem.W.Frag} {cl : Cl} {C : Ctx} {E E' : SEnv} {σ : St}
theorem take_dat {r : Ret} {d d' : D} (h : take E r = some (d, E')) (h2 : dat E r = some d') : d = d' := by
  cases r with
  | val x => cases h; cases h2; rfl
  | own o => cases o with
    | lst ds => cases h; cases h2; rfl
    | dic _ => cases h
    | dct _ => cases h
    | raw _ => cases h
  | bor i =>
    unfold take at h
    dsimp only at h
    have h2' : (E[i]?).bind Slot.dat = some d' := h2
    split at h
    · rename_i x e; rw [e] at h2'; cases h; cases h2'; rfl
    · rename_i ds e; rw [e] at h2'; cases h; cases h2'; rfl
    · cases h
theorem take_env {r r2 : Ret} {d d' : D} (h : take E r = some (d, E')) (h2 : dat E r2 = some d') : dat E' r2 = some d' := by
  cases r with
  | val x => cases h; exact h2
  | own o => cases o with
    | lst ds => cases h; exact h2
    | dic _ => cases h
    | dct _ => cases h
    | raw _ => cases h
  | bor i =>
    unfold take at h
    dsimp only at h
    split at h
    · cases h; exact h2
    · rename_i ds e
      cases h
      cases r2 with
      | val x => exact h2
      | own o => cases o <;> exact h2
      | bor j =>
        have h2' : (E[j]?).bind Slot.dat = some d' := h2
        show ((E.set i (.val (.list ds)))[j]?).bind Slot.dat = some d'
        by_cases hij : j = i
        · subst hij
          rw [e] at h2'
          rw [List.getElem?_set_self (List.getElem?_eq_some_iff.mp e).1]
          exact h2'
        · rw [List.getElem?_set_ne (Ne.symm hij)]; exact h2'
    · cases h
theorem dats_env {r : Ret} {d : D} (h : take E r = some (d, E')) : ∀ {rs : List Ret} {ds : List D}, dats E rs = some ds → dats E' rs = some ds
  | [], _, e => e
  | r2 :: rs, ds, e => by
    unfold dats at e ⊢
    split at e
    · rename_i d1 ds1 e1 e2
      cases e
      rw [take_env h e1, dats_env h e2]
    · cases e
theorem takes_dats : ∀ {rs : List Ret} {E E' : SEnv} {ds ds' : List D}, takes E rs = some (ds, E') → dats E rs = some ds' → ds = ds'
  | [], E, E', ds, ds', h, h2 => by cases h; cases h2; rfl
  | r :: rs, E, E', ds, ds', h, h2 => by
    unfold takes at h
    unfold dats at h2
    split at h
    · rename_i d E1 e1
      split at h
      · rename_i ds1 E2 e2
        cases h
        split at h2
        · rename_i d1 ds2 g1 g2
          cases h2
          rw [take_dat e1 g1, takes_dats e2 (dats_env e1 g2)]
        · cases h2
      · cases h
    · cases h
end
section
variable {X : Cx} {cl : Cl} {W : WX} {e : Expr} {es : List Expr} {x : Str} {p pos : Pos} {ms : M (List Ret)} {g : List D → FR} {k : Nat} {f : Addr} {fd : FuncData} {ps : List Str}
theorem den_call (F : FnOk X.prog X.w X.K X.mg X.base (L2.CX X.prog X.w) k f fd ps (spM X.K cl g)) (tk : Takes X W) (hr : Room k X.A) (hg : Gl X x) (hm : X.mg x = some (.ref f)) (hk : PySem.W.keepIn X.K (.ref f) = true) (hb : Binds X.K fd ps [])
    (ha : PA X (e :: es) (tMA X.K cl W ms)) (hdb : (x == ("__debug__" : Str)) = false := by decide) (he : starEach (e :: es) X.env = (false, eval e X.env) :: starEach es X.env := by rfl) (hpl : (backTo pos (starEach es X.env)).any (·.1) = false := by rfl) :
    PE X (.Call (.Name x p) (e :: es) [] pos) (tM X.K cl W (mCall g ms)) := PE.imp (pe_callS F hr hg hm hk hb (fun σ => passAt tk σ) ha hdb he hpl) fun σ H Q h => by
  obtain ⟨C, E, T, R, h⟩ := h
  refine ⟨C, E, T, R, (Run.bind h).imp fun rs E1 h1 vs H1 R1 b1 => ?_⟩
  split at h1
  · exact h1.elim
  rename_i ds e1
  obtain ⟨F1, ρ1, RF⟩ := R1
  have hd := RF.dats rfl b1 e1
  split at h1
  · exact h1.elim
  · rename_i x e2
    refine ⟨lendF F1 H1 vs, ds, lend_tb RF.tb, lend_same RF.fh, lend_dps RF.fh (fun _ h => h) hd, ?_⟩
    rw [e2]
    intro d H' hH hx
    exact h1 d H' ((RF.drop.after hH (L2.Same.refl F1) (same_stp RF hH) (fun _ _ _ => rfl)).rel) (hx.weak fun _ z => RF.new_H0 z)
  · rename_i rv e2
    split at h1
    · rename_i hp
      refine ⟨lendF F1 H1 vs, ds, lend_tb RF.tb, lend_same RF.fh, lend_dps RF.fh (fun _ h => h) hd, ?_⟩
      rw [e2]
      intro v H' F3 hH h3 h4 hk3 hv
      obtain ⟨R2, b2⟩ := RF.drop.call_pure hH h3 h4 hk3 hv hp
      exact h1 v H' R2 b2
    · split at h1
      · rename_i ds' E2 e3
        obtain ⟨F2, f2, R2, d2⟩ := RF.takes b1 e3
        have : ds' = ds := takes_dats e3 e1
        subst this
        refine ⟨F2, ds', R2.tb, R2.fh, d2, ?_⟩
        rw [e2]
        intro v H' F3 hH h3 h4 hk3 hv
        obtain ⟨R3, b3⟩ := R2.push_ret hH h3 h4 hk3 hv
        exact h1 v H' R3 b3
      · exact h1.elim
end

/-! ### a def -/
def conv (E : SEnv) : Ret → FR
  | .val d => .ok (.val d)
  | .own o => .ok (.own o)
  | .bor i => match E[i]? with
    | some (.val d) => .ok (.val d)
    | some (.own o) => .ok (.own o)
    | _ => .no
/-- np parameters, n names -/
def runDef (np n : Nat) (m : M Fl) (ds : List D) : FR := if ds.length = np then (match m (ds.map Slot.val ++ List.replicate (n - np) .un) with
  | .ok (.rt r) E => conv E r
  | .ok .nx _ => .ok (.val .none)
  | .ok _ _ => .no
  | .ex x _ => .ex x
  | .no => .no) else .no
theorem start_rel {K : PySem.W.Frag} {cl : Cl} {F0 H : Hp} {vs : List V} {ds : List D} {N : List Str} (ht : TOk cl.T F0 H) (hs : Same F0 H) (hd : DpAll K F0 vs ds) : RelF K cl ⟨noT cl.T H, F0, fun _ => none, fun _ => none⟩ F0 (fun _ => none) (ds.map Slot.val ++ List.replicate (N.length - vs.length) .un) [] (L2.start N vs) H where
  len := by unfold L2.start; simp [dps_len hd]
  f0 := L2.Same.refl F0
  fh := hs
  h0 := fun p o e _ => noT_sub p o e
  hf := fun _ _ _ => rfl
  tb := ht
  nt := fun p hp => if_pos hp
  sl := fun i v s e1 e2 => by
    unfold L2.start at e1
    rcases Nat.lt_or_ge i vs.length with hi | hi
    · rw [List.getElem?_append_left (by simpa using hi)] at e1
      rw [List.getElem?_append_left (by simpa [← dps_len hd] using hi)] at e2
      rw [List.getElem?_map] at e1 e2
      cases q : vs[i]? with
      | none => rw [q] at e1; cases e1
      | some w =>
        rw [q] at e1
        cases e1
        obtain ⟨d, q2, h⟩ := dps_getV hd q
        rw [q2] at e2
        cases e2
        exact ⟨w, rfl, h⟩
    · rw [List.getElem?_append_right (by simpa [← dps_len hd] using hi)] at e2
      have : s = .un := by
        obtain ⟨_, e3⟩ := List.getElem?_eq_some_iff.mp e2
        rw [List.getElem_replicate] at e3
        exact e3.symm
      subst this
      trivial
  ln := fun _ _ e => nomatch e
  tm := fun k v r e => by simp at e
theorem spM_len {K : PySem.W.Frag} {cl : Cl} {np n : Nat} {m : M Fl} {vs : List V} {H : Hp} {Q : VK} {E : XK} (h : spM K cl (runDef np n m) vs H Q E) : vs.length = np := by
  obtain ⟨F0, ds, _, _, hd, h⟩ := h
  rw [dps_len hd]
  by_cases e : ds.length = np
  · exact e
  · have : runDef np n m ds = .no := if_neg e
    rw [this] at h
    exact h.elim
section
variable {P : Program} {w : World} {K : PySem.W.Frag} {mg : Str → Option Value} {base : Heap} {cl : Cl}
theorem def_run {N ps : List Str} {m : M Fl} {vs : List V} {H : Hp} {Q : VK} {E : XK} {sc : Scope} (S : FnScope N ps sc) (h : spM K cl (runDef ps.length N.length m) vs H Q E) : tMS K cl (fun c d _ H => E c d H) m { nx := fun _ H' => Q .non H', rt := Q } (start N vs) H := by
  have hlen := spM_len h
  obtain ⟨F0, ds, ht, hs, hd, h⟩ := h
  have R := start_rel (cl := cl) (N := N) ht hs hd
  rw [hlen] at R
  refine ⟨_, _, [], R.rel, ?_⟩
  unfold runDef at h
  have hl2 : ds.length = ps.length := (dps_len hd).symm.trans hlen
  rw [if_pos hl2] at h
  cases q : m (ds.map Slot.val ++ List.replicate (N.length - ps.length) .un) with
  | no => rw [q] at h; exact h.elim
  | ex x E1 =>
    rw [q] at h
    intro d σ' H' R' hx
    obtain ⟨F', ρ', R'⟩ := R'
    exact h d H' ⟨fun p o e => R'.h0 p o e (fun _ z => nomatch z), R'.tb.1⟩ (hx.noT R'.tb.1)
  | ok fl E1 =>
    rw [q] at h
    have out : ∀ {F' : Hp} {ρ' : Own} {T' : List (V × Ret)} {σ' : St} {H' : Hp}, RelF K cl ⟨noT cl.T H, F0, fun _ => none, fun _ => none⟩ F' ρ' E1 T' σ' H' → Stp cl.T H H' ∧ Same F0 F' ∧ Same F' H' ∧ ∀ p o, H p = some o → F' p = F0 p := fun R' =>
      ⟨⟨fun p o e => R'.h0 p o e (fun _ z => (nomatch z)), R'.tb.1⟩, R'.f0, R'.fh, noT_hf ht.2 R'.tb.2 R'.hf⟩
    cases fl with
    | bk => exact h.elim
    | ct => exact h.elim
    | nx =>
      intro σ' H' ⟨F', ρ', R'⟩
      obtain ⟨a, b, c, d⟩ := out R'
      exact h .non H' F' a b c d .non
    | rt r =>
      intro v σ' H' ⟨F', ρ', R'⟩ bo
      obtain ⟨a, b, c, d⟩ := out R'
      cases r with
      | val x => exact h v H' F' a b c d (R'.tm 0 v (.val x) rfl)
      | own o =>
        obtain ⟨p, rfl, ⟨ho, h1, h2, h3, _⟩, h4⟩ := R'.tm 0 v (.own o) rfl
        exact h _ H' F' a b c d ⟨p, ho, rfl, noT_none R'.tb.1 h4 h1 (mrep_tbl h2), h1, h2, h3⟩
      | bor i =>
        unfold conv at h
        dsimp only at h
        have bo' : σ'[i]? = some (some v) := bo
        split at h
        · rename_i rv e2
          split at e2
          · rename_i x e3
            cases e2
            obtain ⟨y, z1, z2⟩ := R'.sl i _ _ bo' e3
            cases z1
            exact h v H' F' a b c d z2
          · rename_i o e3
            cases e2
            obtain ⟨p, z1, ⟨ho, h1, h2, h3, _⟩, h4⟩ := R'.sl i _ _ bo' e3
            cases z1
            exact h _ H' F' a b c d ⟨p, ho, rfl, noT_none R'.tb.1 h4 h1 (mrep_tbl h2), h1, h2, h3⟩
          · cases e2
        · rename_i x e2
          split at e2 <;> cases e2
        · exact h.elim
theorem den_def {x qual : Str} {st : Stmt} {f : Addr} {fd : FuncData} {N ps : List Str} {k : Nat} {m : M Fl} (F : Fun K x qual st f fd) (S : FnScope N ps (defScope st))
    (hbody : ∀ (cdv : Value) (A : Around) (outer : List Env) (s : Shared) (H : Hp) (E : XK), Room k (A.deeper (PyProof.Rows.envOfC qual (defScope st) s.heap.objs.size f cdv)) →
      PSs (cxOf (L2.CX P w) P w K mg base N qual (defScope st) f cdv A outer s H E) (defBody st) (tMS K cl (fun c d _ H => E c d H) m)) : FnOk P w K mg base (L2.CX P w) (k + 1) f fd ps (spM K cl (runDef ps.length N.length m)) := by
  refine F.okX S (fun vs H Q E h => spM_len h) (fun cdv A outer s H vs Q E hr h => ⟨_, hbody cdv A outer s H E hr, def_run S h⟩)
end
end MP

namespace MP
open PySem PySem.Spec L2

/-! ### arithmetic -/
def mulOk (i j : Int) : Prop := (-(2 ^ 64) < i ∧ i < 2 ^ 64) ∨ (-(2 ^ 64) < j ∧ j < 2 ^ 64) ∨ i.natAbs.log2 + j.natAbs.log2 < 1000000
instance (i j : Int) : Decidable (mulOk i j) := by unfold mulOk; exact inferInstance
def big : Nat := 1000000
noncomputable def addF : D → D → Option Rv
  | .int i, .int j => some (.val (.int (i + j)))
  | .str a, .str b => if Ok (a.length + b.length ≤ big) then some (.val (.str (a ++ b))) else none
  | .list xs, .list ys => if Ok (xs.length + ys.length ≤ big) then some (.own (.lst (xs ++ ys))) else none
  | .tuple xs, .tuple ys => if Ok (xs.length + ys.length ≤ big) then some (.val (.tuple (xs ++ ys))) else none
  | _, _ => none
noncomputable def subF : D → D → Option Rv
  | .int i, .int j => some (.val (.int (i - j)))
  | _, _ => none
noncomputable def mulF : D → D → Option Rv
  | .int i, .int j => if Ok (mulOk i j) then some (.val (.int (i * j))) else none
  | .tuple xs, .int k => if Ok (xs ≠ [] ∧ 1 ≤ k ∧ k ≤ 1000 ∧ xs.length ≤ 1000) then some (.val (.tuple (List.replicate k.toNat xs).flatten)) else none
  | _, _ => none
noncomputable def divF : D → D → Option Rv
  | .int i, .int j => if Ok (0 < j ∧ j.natAbs.log2 < 9000) then some (.val (.int (i / j))) else none
  | _, _ => none
noncomputable def modF : D → D → Option Rv
  | .int i, .int j => if Ok (0 < j) then some (.val (.int (i % j))) else none
  | _, _ => none
noncomputable def powF : D → D → Option Rv
  | .int i, .int j => if Ok (0 ≤ j ∧ j ≤ 1000000 ∧ i.natAbs < 2 ^ 64) then some (.val (.int (i ^ j.toNat))) else none
  | _, _ => none
def negF : D → Option Rv
  | .int i => some (.val (.int (-i)))
  | _ => none
theorem big_le {n : Nat} (h : n ≤ big) : n ≤ sizeLine := Nat.le_trans h (by rw [sizeLine_eq]; decide)
theorem big_lt {n : Nat} (h : n ≤ big) : n < sizeLine := Nat.lt_of_le_of_lt h (by rw [sizeLine_eq]; decide)
section
variable {K : PySem.W.Frag} {F H : Hp} {v : V} {Q : VK}
theorem dpt_int {i : Int} (h : DpT K F H v (.int i)) : v = .int i := by cases (show Dp K F v _ from h); rfl
theorem dpt_str {i : Str} (h : DpT K F H v (.str i)) : v = .str i := by cases (show Dp K F v _ from h); rfl
theorem dpt_bl {i : Bool} (h : DpT K F H v (.bool i)) : v = .bl i := by cases (show Dp K F v _ from h); rfl
theorem dpt_tup {ds : List D} (hs : Same F H) (h : DpT K F H v (.tuple ds)) : ∃ a xs, v = .ref a ∧ SqT K H a xs ∧ DpAll K F xs ds := by
  cases (show Dp K F v _ from h) with
  | tup h1 h2 => exact ⟨_, _, rfl, SqT.of (hs _ _ h1), h2⟩
theorem dpt_lst {ds : List D} (hs : Same F H) (h : DpT K F H v (.list ds)) : ∃ a xs, v = .ref a ∧ SqL K H a xs ∧ DpAll K F xs ds := by
  obtain ⟨a, xs, rfl, h1, h2⟩ := h
  exact ⟨a, xs, rfl, sql_or hs h1, h2⟩
/-- an existing tuple -/
theorem dp_tup' {ds : List D} (h : DpT K F H v (.tuple ds)) : Dp K F v (.tuple ds) := h
end
section
variable {X : Cx}
/-- list + list, any that are read -/
theorem list_addG (l b : Addr) (items items2 : Array Value) (n n2 : Nat) (dd dd2 : Option Addr) (sl sl2 : Array (Option Value)) (hc0 : items.size + items2.size ≤ sizeLine) :
    Meets (Builtin.«list.__add__» ⟨[.ref l, .ref b], []⟩) (fun _ R s => s.heap.get? l = some { cls := .type "list", dict := dd, data := .seq items n, slots := sl } ∧ s.heap.get? b = some { cls := .type "list", dict := dd2, data := .seq items2 n2, slots := sl2 } ∧
      R (.ok (.ret (Value.ref s.heap.objs.size))) { s with heap := s.heap.push { cls := Value.type "list", data := Data.seq (items ++ items2) }, toks := s.toks }) :=
  .of_wp fun prog w A R s h => by
    obtain ⟨hp, g, d, tk, os⟩ := s
    obtain ⟨hl, hb, h⟩ := h
    have f1 := AutoSeq1.idx_int
    have f3 := AutoSeq1.sub_list_list
    wp_walk using AutoSeq1.wpAny_loadPart' hl, AutoSeq1.wpAny_loadPart' hb
    exact ⟨_, rfl, h⟩
def rCatG (K : PySem.W.Frag) : R2 := fun x y H Q => ∃ l b xs zs, x = .ref l ∧ y = .ref b ∧ SqL K H l xs ∧ SqL K H b zs ∧ xs.length + zs.length ≤ sizeLine ∧ ∀ p, H p = none → Q (.ref p) (upd H p (.lst (xs ++ zs)))
theorem op_catG : OpR X (binaryOp .Add) (rCatG X.K) := by
  intro pins s σ H x y v u Q I rx ry h
  obtain ⟨l, b, xs, zs, rfl, rfl, hl, hb, hz, q⟩ := h
  cases rx
  cases ry
  obtain ⟨its, r, ⟨⟨c1, d1, da1, sl1⟩, n, e, g1, g2, g3⟩, z⟩ := I.list hl
  obtain ⟨its2, r2, ⟨⟨c2, d2, da2, sl2⟩, n2, e2, k1, k2, k3⟩, z2⟩ := I.list hb
  simp only at g1 g2 g3 k1 k2 k3
  subst g1 g2 g3 k1 k2 k3
  refine concat_meets ⟨_, e, rfl⟩ ⟨_, e2, rfl⟩ noFill_list_add seq_list_add F.slot_list_add F.entry_list_add (F.args_list_add_2 _ _) (list_addG l b its.toArray its2.toArray n n2 none none sl1 sl2 (by rw [List.size_toArray, List.size_toArray, ← r.length, ← r2.length]; exact hz)) ⟨e, e2, ?_⟩
  have ea : its.toArray ++ its2.toArray = (its ++ its2).toArray := by simp
  rw [ea]
  exact ⟨.ref _, _, I.lnew (t' := s.toks) (r.append r2) (by rw [List.length_append]; exact hz), rfl, q _ I.fresh⟩
def rAddM (K : PySem.W.Frag) : R2 := fun x y H Q => (∃ i j, x = .int i ∧ y = .int j ∧ Q (.int (i + j)) H) ∨ (∃ i j, x = .str i ∧ y = .str j ∧ i.length + j.length ≤ sizeLine ∧ Q (.str (i ++ j)) H) ∨ rCatG K x y H Q ∨ rCatA K x y H Q
theorem op_addM : OpR X (binaryOp .Add) (rAddM X.K) := op_add.or (op_add_str.or (op_catG.or op_catA))
theorem addM_ok {K : PySem.W.Frag} : Op2 K (rAddM K) addF := fun F H x y a b rv Q hs ha hb e g => by
  unfold addF at e
  split at e
  · cases e; exact .inl ⟨_, _, dpt_int ha, dpt_int hb, g.int⟩
  · split at e
    · rename_i hl; cases e; exact .inr (.inl ⟨_, _, dpt_str ha, dpt_str hb, big_le hl, g.str⟩)
    · cases e
  · split at e
    · rename_i xs ys hl
      cases e
      obtain ⟨p, us, rfl, h1, h2⟩ := dpt_lst hs ha
      obtain ⟨q, ws, rfl, h3, h4⟩ := dpt_lst hs hb
      exact .inr (.inr (.inl ⟨p, q, us, ws, rfl, rfl, h1, h3, by rw [dps_len h2, dps_len h4]; exact big_le hl, fun z hz => g z _ hz ⟨_, rfl, dps_app h2 h4⟩⟩))
    · cases e
  · split at e
    · rename_i xs ys hl
      cases e
      obtain ⟨p, us, rfl, h1, h2⟩ := dpt_tup hs ha
      obtain ⟨q, ws, rfl, h3, h4⟩ := dpt_tup hs hb
      refine .inr (.inr (.inr ⟨p, q, us, ws, rfl, rfl, h1, h3, by rw [dps_len h2, dps_len h4]; exact big_le hl, fun z => ?_, fun _ z => ?_, fun _ _ z hz => g.2 _ z _ rfl hz (dps_app h2 h4)⟩))
      · subst z
        cases h2
        exact g.1 _ (by simpa using dp_tup' hb)
      · subst z
        cases h4
        exact g.1 _ (by simpa using dp_tup' ha)
    · cases e
  · cases e
theorem sub_ok {K : PySem.W.Frag} : Op2 K (rI0 fun i j => .int (i - j)) subF := fun F H x y a b rv Q hs ha hb e g => by
  unfold subF at e
  split at e
  · cases e; exact ⟨_, _, dpt_int ha, dpt_int hb, g.int⟩
  · cases e
theorem flat_rep_len {α : Type} (xs : List α) : ∀ n : Nat, (List.replicate n xs).flatten.length = n * xs.length
  | 0 => by simp
  | n + 1 => by rw [List.replicate_succ, List.flatten_cons, List.length_append, flat_rep_len xs n, Nat.succ_mul, Nat.add_comm]
/-- tuple * 1 is the tuple -/
theorem tuple_mul1 (l : Addr) (items : Array Value) (n : Nat) (dd : Option Addr) (sl : Array (Option Value)) (u : Tok) :
    Meets (Builtin.«tuple.__mul__» ⟨[.ref l, .int 1 u], []⟩) (fun _ R s => s.heap.get? l = some { cls := .type "tuple", dict := dd, data := .seq items n, slots := sl } ∧ R (.ok (.ret (Value.ref l))) s) :=
  .of_wp fun prog w A R s h => by
    obtain ⟨hp, g, d, tk, os⟩ := s
    obtain ⟨hl, h⟩ := h
    have f1 := AutoSeq1.idx_int
    have f2 := AutoSeq1.sub_tuple_tuple
    have c1 : (items.isEmpty || ((1 : Int) == 1)) = true := by simp
    wp_walk using AutoSeq1.wpAny_loadPart' hl
    repeat (first
      | exact ⟨_, rfl, h⟩
      | (refine wpAny_ite_true (decide_eq_true c1) ?_; wp_walk using AutoSeq1.wpAny_loadPart' hl))
def rRepT1 (K : PySem.W.Frag) : R2 := fun x y H Q => ∃ l xs, x = .ref l ∧ y = .int 1 ∧ SqT K H l xs ∧ Q (.ref l) H
theorem op_repT1 : OpR X (binaryOp .Mult) (rRepT1 X.K) := by
  intro pins s σ H x y v u Q I rx ry h
  obtain ⟨l, xs, rfl, rfl, hT, q⟩ := h
  cases rx
  obtain ⟨t, rfl⟩ := ry
  obtain ⟨its, r, ⟨⟨cls, dd, data, sl⟩, ho, hc, n, hd⟩, hs⟩ := I.tuple hT
  simp only at hc hd
  subst hc hd
  refine wpAny_binaryOp_repeat_ref (T := "tuple") (U := "int") (by decide) ⟨_, ho, rfl⟩ (fun s' => typeIs_int s' 1 t) noFill_tuple_mul F.fills_int_mul F.slot_int_rmul repeat_tuple F.slot_int_index.lookup
    (call_meets F.slot_int_rmul (typeIs_int s 1 t) F.entry_int_rmul (F.args_int_rmul_2 _ _) (int_rmul_tuple 1 t l its.toArray n dd sl)
      ⟨ho, rfl, ⟨_, ho, rfl⟩, call_meets F.slot_tuple_mul ⟨_, ho, rfl⟩ F.entry_tuple_mul (F.args_tuple_mul_2 _ _) (tuple_mul1 l its.toArray n dd sl t) ⟨ho, ?_⟩⟩)
  exact ⟨.ref l, H, I, rfl, q⟩
def rMulM (K : PySem.W.Frag) : R2 := fun x y H Q => rI CMul (fun i j => .int (i * j)) x y H Q ∨ rI CMulW (fun i j => .int (i * j)) x y H Q ∨ rRep x y H Q ∨ rRepT K x y H Q ∨ rRepT1 K x y H Q
theorem op_mulM : OpR X (binaryOp .Mult) (rMulM X.K) := op_mul.or (op_mulW.or (op_rep.or (op_repT.or op_repT1)))
theorem div_ok {K : PySem.W.Frag} : Op2 K (rI CDivW fun i j => .int (i / j)) divF := fun F H x y a b rv Q hs ha hb e g => by
  unfold divF at e
  split at e
  · split at e
    · rename_i hl; cases e; exact ⟨_, _, dpt_int ha, dpt_int hb, hl, g.int⟩
    · cases e
  · cases e
theorem mod_ok {K : PySem.W.Frag} : Op2 K (rI (fun _ j => 0 < j) fun i j => .int (i % j)) modF := fun F H x y a b rv Q hs ha hb e g => by
  unfold modF at e
  split at e
  · split at e
    · rename_i hl; cases e; exact ⟨_, _, dpt_int ha, dpt_int hb, hl, g.int⟩
    · cases e
  · cases e
theorem pow_ok {K : PySem.W.Frag} : Op2 K (rI CPow fun i j => .int (i ^ j.toNat)) powF := fun F H x y a b rv Q hs ha hb e g => by
  unfold powF at e
  split at e
  · split at e
    · rename_i hl; cases e; exact ⟨_, _, dpt_int ha, dpt_int hb, hl, g.int⟩
    · cases e
  · cases e
theorem neg_ok {K : PySem.W.Frag} : Op1 K (rU fun i => .int (-i)) negF := fun F H x a rv Q hs ha e g => by
  unfold negF at e
  split at e
  · cases e; exact ⟨_, dpt_int ha, g.int⟩
  · cases e
/-- the tuples and numbers of * by data; a list wants to be one's own -/
theorem mul_ok {K : PySem.W.Frag} : Op2 K (fun x y H Q => rI CMul (fun i j => .int (i * j)) x y H Q ∨ rI CMulW (fun i j => .int (i * j)) x y H Q ∨ rRepT K x y H Q ∨ rRepT1 K x y H Q) mulF := fun F H x y a b rv Q hs ha hb e g => by
  unfold mulF at e
  split at e
  · split at e
    · rename_i hl
      cases e
      rcases hl with hl | hl | hl
      · exact .inl ⟨_, _, dpt_int ha, dpt_int hb, .inl hl, g.int⟩
      · exact .inl ⟨_, _, dpt_int ha, dpt_int hb, .inr hl, g.int⟩
      · exact .inr (.inl ⟨_, _, dpt_int ha, dpt_int hb, hl, g.int⟩)
    · cases e
  · split at e
    · rename_i xs k hl
      obtain ⟨p, us, rfl, h1, h2⟩ := dpt_tup hs ha
      rcases Int.lt_or_eq_of_le hl.2.1 with h3 | h3
      · cases e
        exact .inr (.inr (.inl ⟨p, k, us, rfl, dpt_int hb, h1, fun z => by subst z; cases h2; exact hl.1 rfl, h3, hl.2.2.1, by rw [dps_len h2]; exact hl.2.2.2, fun q hq => g.2 _ q _ rfl hq (dps_rep h2 _)⟩))
      · subst h3
        cases e
        exact .inr (.inr (.inr ⟨p, us, rfl, dpt_int hb, h1, g.1 _ (by simpa using dp_tup' ha)⟩))
    · cases e
  · cases e
end

/-- a * b, a list of one's own too -/
noncomputable def mMul (a b : M Ret) : M Ret := fun E => (a E).bind fun r1 E1 => (b E1).bind fun r2 E2 => match r1, dat E2 r2 with
  | .own (.lst xs), some (.int k) => if Ok (smallI k = true ∧ xs.length * k.toNat ≤ big) then .ok (.own (.lst (List.replicate k.toNat xs).flatten)) E2 else .no
  | _, _ => op2 mulF E2 r1 r2
section
variable {X : Cx} {cl : Cl} {W : WX} {a b : Expr} {pos : Pos} {ma mb : M Ret}
theorem den_mul (ha : PE X a (tM X.K cl W ma)) (hb : PE X b (tM X.K cl W mb)) : PE X (.BinOp a .Mult b pos) (tM X.K cl W (mMul ma mb)) := PE.imp (pe_op op_mulM ha hb) fun σ H Q h => by
  obtain ⟨C, E, T, R, h⟩ := h
  refine ⟨C, E, T, R, (Run.bind h).imp fun ra E1 h1 v1 H1 R1 b1 => ⟨C, E1, _, R1, (Run.bind h1).go fun rb E2 h2 v2 H2 R2 b2 => ?_⟩⟩
  obtain ⟨F, ρ, RF⟩ := R2
  have k1 : (T ++ [(v1, ra)] ++ [(v2, rb)])[T.length]? = some (v1, ra) := by simp
  have k2 : (T ++ [(v1, ra)] ++ [(v2, rb)])[T.length + 1]? = some (v2, rb) := by simp
  split at h2
  · rename_i xs k e2
    split at h2
    · rename_i hl
      have hv := dpt_int (RF.dat k2 b2 e2)
      obtain ⟨p, rfl, ⟨ho, hh, ⟨vs, rfl, hd⟩, _, _⟩, _⟩ := RF.tm _ _ _ k1
      have := smallI_of hl.1
      refine .inr (.inr (.inl ⟨p, k, vs, rfl, hv, hh, by omega, by omega, by rw [dps_len hd]; exact big_le hl.2, fun q hq => ?_⟩))
      exact gives (T' := [(V.ref p, Ret.own (.lst xs)), (v2, rb)]) (rv := .own (.lst (List.replicate k.toNat xs).flatten)) (by simpa using RF) h2 q _ hq ⟨_, rfl, dps_rep hd _⟩
    · exact h2.elim
  · obtain ⟨a, b, rv, e1, e2, e3, p⟩ := op2_run h2
    rcases mul_ok F H2 v1 v2 a b rv Q RF.fh (RF.dat k1 b1 e1) (RF.dat k2 b2 e2) e3 (gives (T' := [(v1, _), (v2, rb)]) (by simpa using RF) p) with h | h | h | h
    · exact .inl h
    · exact .inr (.inl h)
    · exact .inr (.inr (.inr (.inl h)))
    · exact .inr (.inr (.inr (.inr h)))
theorem den_add (ha : PE X a (tM X.K cl W ma)) (hb : PE X b (tM X.K cl W mb)) : PE X (.BinOp a .Add b pos) (tM X.K cl W (m2 addF ma mb)) := den_bin op_addM addM_ok ha hb
theorem den_sub (ha : PE X a (tM X.K cl W ma)) (hb : PE X b (tM X.K cl W mb)) : PE X (.BinOp a .Sub b pos) (tM X.K cl W (m2 subF ma mb)) := den_bin op_sub sub_ok ha hb
theorem den_div (ha : PE X a (tM X.K cl W ma)) (hb : PE X b (tM X.K cl W mb)) : PE X (.BinOp a .FloorDiv b pos) (tM X.K cl W (m2 divF ma mb)) := den_bin op_fdivW div_ok ha hb
theorem den_mod (ha : PE X a (tM X.K cl W ma)) (hb : PE X b (tM X.K cl W mb)) : PE X (.BinOp a .Mod b pos) (tM X.K cl W (m2 modF ma mb)) := den_bin op_mod mod_ok ha hb
theorem den_pow (ha : PE X a (tM X.K cl W ma)) (hb : PE X b (tM X.K cl W mb)) : PE X (.BinOp a .Pow b pos) (tM X.K cl W (m2 powF ma mb)) := den_bin op_pow pow_ok ha hb
theorem den_neg (ha : PE X a (tM X.K cl W ma)) : PE X (.UnaryOp .USub a pos) (tM X.K cl W (m1 negF ma)) := den_un un_neg neg_ok ha
end

/-! ### comparisons -/
noncomputable def eqF : D → D → Option Rv
  | .int i, .int j => some (.val (.bool (decide (i = j))))
  | .bool i, .bool j => some (.val (.bool (decide (i = j))))
  | .str i, .str j => some (.val (.bool (decide (i = j))))
  | .none, .none => some (.val (.bool true))
  | a, b => if Ok (SeqAt.shaped a = true ∧ SeqAt.shaped b = true) then some (.val (.bool (PyData.eqv a b))) else none
noncomputable def neF : D → D → Option Rv
  | .int i, .int j => some (.val (.bool (!decide (i = j))))
  | .bool i, .bool j => some (.val (.bool (!decide (i = j))))
  | .str i, .str j => some (.val (.bool (!decide (i = j))))
  | .none, .none => some (.val (.bool false))
  | a, b => if Ok (SeqAt.shaped a = true ∧ SeqAt.shaped b = true) then some (.val (.bool (!PyData.eqv a b))) else none
def ltF : D → D → Option Rv
  | .int i, .int j => some (.val (.bool (decide (i < j))))
  | _, _ => none
def leF : D → D → Option Rv
  | .int i, .int j => some (.val (.bool (decide (i ≤ j))))
  | _, _ => none
def gtF : D → D → Option Rv
  | .int i, .int j => some (.val (.bool (decide (j < i))))
  | _, _ => none
def geF : D → D → Option Rv
  | .int i, .int j => some (.val (.bool (decide (j ≤ i))))
  | _, _ => none
def rEqM (K : PySem.W.Frag) : R2 := fun x y H Q => rEq x y H Q ∨ rEqD K x y H Q
def rNeM (K : PySem.W.Frag) : R2 := fun x y H Q => rNe x y H Q ∨ rNeD K x y H Q
section
variable {K : PySem.W.Frag}
theorem eq_ok : Op2 K (rEqM K) eqF := fun F H x y a b rv Q hs ha hb e g => by
  unfold eqF at e
  split at e
  · cases e; rw [dpt_int ha, dpt_int hb]; exact .inl ⟨rfl, by simpa using g.bool⟩
  · cases e; rw [dpt_bl ha, dpt_bl hb]; exact .inl ⟨rfl, by simpa using g.bool⟩
  · cases e; rw [dpt_str ha, dpt_str hb]; exact .inl ⟨rfl, by simpa using g.bool⟩
  · cases e; cases (show Dp K F x _ from ha); cases (show Dp K F y _ from hb); exact .inl ⟨rfl, by simpa using g.bool⟩
  · split at e
    · rename_i hl
      cases e
      exact .inr ⟨_, _, (dp_of ha hs).low, (dp_of hb hs).low, hl.1, hl.2, g.bool⟩
    · cases e
theorem ne_ok : Op2 K (rNeM K) neF := fun F H x y a b rv Q hs ha hb e g => by
  unfold neF at e
  split at e
  · cases e; rw [dpt_int ha, dpt_int hb]; exact .inl ⟨rfl, by simpa using g.bool⟩
  · cases e; rw [dpt_bl ha, dpt_bl hb]; exact .inl ⟨rfl, by simpa using g.bool⟩
  · cases e; rw [dpt_str ha, dpt_str hb]; exact .inl ⟨rfl, by simpa using g.bool⟩
  · cases e; cases (show Dp K F x _ from ha); cases (show Dp K F y _ from hb); exact .inl ⟨rfl, by simpa using g.bool⟩
  · split at e
    · rename_i hl
      cases e
      exact .inr ⟨_, _, (dp_of ha hs).low, (dp_of hb hs).low, hl.1, hl.2, g.bool⟩
    · cases e
theorem lt_ok : Op2 K (rI0 fun i j => .bl (decide (i < j))) ltF := fun F H x y a b rv Q hs ha hb e g => by
  unfold ltF at e
  split at e
  · cases e; exact ⟨_, _, dpt_int ha, dpt_int hb, g.bool⟩
  · cases e
theorem le_ok : Op2 K (rI0 fun i j => .bl (decide (i ≤ j))) leF := fun F H x y a b rv Q hs ha hb e g => by
  unfold leF at e
  split at e
  · cases e; exact ⟨_, _, dpt_int ha, dpt_int hb, g.bool⟩
  · cases e
theorem gt_ok : Op2 K (rI0 fun i j => .bl (decide (j < i))) gtF := fun F H x y a b rv Q hs ha hb e g => by
  unfold gtF at e
  split at e
  · cases e; exact ⟨_, _, dpt_int ha, dpt_int hb, g.bool⟩
  · cases e
theorem ge_ok : Op2 K (rI0 fun i j => .bl (decide (j ≤ i))) geF := fun F H x y a b rv Q hs ha hb e g => by
  unfold geF at e
  split at e
  · cases e; exact ⟨_, _, dpt_int ha, dpt_int hb, g.bool⟩
  · cases e
theorem op_eqM {X : Cx} (hu : X.A.units + 64 < cLine) : OpR X (compareOp .Eq) (rEqM X.K) := op_eq.or (op_eqD hu)
theorem op_neM {X : Cx} (hu : X.A.units + 64 < cLine) : OpR X (compareOp .NotEq) (rNeM X.K) := op_ne.or (op_neD hu)
end
/-- flat data, as `in` compares them -/
def flatD : D → Bool
  | .none => true
  | .bool _ => true
  | .int _ => true
  | .str _ => true
  | _ => false
def eqD : D → D → Bool
  | .none, .none => true
  | .bool a, .bool b => a == b
  | .bool a, .int b => (if a then 1 else 0) == b
  | .int a, .bool b => a == (if b then 1 else 0)
  | .int a, .int b => a == b
  | .str a, .str b => a == b
  | _, _ => false
def memD (x : D) (ds : List D) : Bool := ds.any fun y => eqD y x
noncomputable def inF : D → D → Option Rv
  | x, .list ds => if Ok (flatD x = true ∧ ds.all flatD = true) then some (.val (.bool (memD x ds))) else none
  | x, .tuple ds => if Ok (flatD x = true ∧ ds.all flatD = true) then some (.val (.bool (memD x ds))) else none
  | .str x, .str y => some (.val (.bool (!(Builtin.Str.occurrences y x 0 y.length 1).isEmpty)))
  | _, _ => none
noncomputable def ninF : D → D → Option Rv
  | x, .list ds => if Ok (flatD x = true ∧ ds.all flatD = true) then some (.val (.bool (!memD x ds))) else none
  | x, .tuple ds => if Ok (flatD x = true ∧ ds.all flatD = true) then some (.val (.bool (!memD x ds))) else none
  | .str x, .str y => some (.val (.bool (!(!(Builtin.Str.occurrences y x 0 y.length 1).isEmpty))))
  | _, _ => none
section
variable {K : PySem.W.Frag} {F H : Hp}
theorem flat_dp {v : V} {d : D} (h : Dp K F v d) (f : flatD d = true) : flatV v = true := by cases h <;> first | rfl | exact absurd f Bool.false_ne_true
theorem eq_dp {v w : V} {d e : D} (h : Dp K F v d) (h' : Dp K F w e) (f : flatD d = true) (f' : flatD e = true) : eqV v w = eqD d e := by
  cases h <;> first | exact absurd f Bool.false_ne_true | (cases h' <;> first | rfl | exact absurd f' Bool.false_ne_true)
theorem flat_dps : ∀ {vs : List V} {ds : List D}, DpAll K F vs ds → ds.all flatD = true → vs.all flatV = true
  | _, _, .nil, _ => rfl
  | _, d :: ds, .cons h hs, f => by
    have f' : flatD d = true ∧ ds.all flatD = true := by simpa using f
    rw [List.all_cons, flat_dp h f'.1, flat_dps hs f'.2]; rfl
theorem mem_dps {x : V} {d : D} (h : Dp K F x d) (fd : flatD d = true) : ∀ {vs : List V} {ds : List D}, DpAll K F vs ds → ds.all flatD = true → inV x vs = memD d ds
  | _, _, .nil, _ => rfl
  | _, e :: ds, .cons h' hs, f => by
    have f' : flatD e = true ∧ ds.all flatD = true := by simpa using f
    have ih := mem_dps h fd hs f'.2
    unfold inV memD at ih ⊢
    rw [List.any_cons, List.any_cons, eq_dp h' h f'.1 fd, ih]
theorem flat_dpt {v : V} {d : D} (h : DpT K F H v d) (f : flatD d = true) : Dp K F v d := by cases d <;> first | exact h | cases f
def rInM (K : PySem.W.Frag) (neg : Bool) : R2 := fun x y H Q => rIn K neg x y H Q ∨ (∃ i j, x = .str i ∧ y = .str j ∧ Q (.bl (if neg then !(!(Builtin.Str.occurrences j i 0 j.length 1).isEmpty) else !(Builtin.Str.occurrences j i 0 j.length 1).isEmpty)) H)
theorem op_inM {X : Cx} : OpR X (compareOp .In) (rInM X.K false) := op_in_seq.or op_in_str
theorem op_ninM {X : Cx} : OpR X (compareOp .NotIn) (rInM X.K true) := op_notIn_seq.or op_notIn_str
theorem in_ok : Op2 K (rInM K false) inF := fun F H x y a b rv Q hs ha hb e g => by
  unfold inF at e
  split at e
  · split at e
    · rename_i hl
      cases e
      obtain ⟨p, us, rfl, h1, h2⟩ := dpt_lst hs hb
      have hx := flat_dpt ha hl.1
      exact .inl ⟨p, us, rfl, .inl h1, flat_dp hx hl.1, flat_dps h2 hl.2, by rw [mem_dps hx hl.1 h2 hl.2]; exact g.bool⟩
    · cases e
  · split at e
    · rename_i hl
      cases e
      obtain ⟨p, us, rfl, h1, h2⟩ := dpt_tup hs hb
      have hx := flat_dpt ha hl.1
      exact .inl ⟨p, us, rfl, .inr h1, flat_dp hx hl.1, flat_dps h2 hl.2, by rw [mem_dps hx hl.1 h2 hl.2]; exact g.bool⟩
    · cases e
  · cases e; exact .inr ⟨_, _, dpt_str ha, dpt_str hb, g.bool⟩
  · cases e
theorem nin_ok : Op2 K (rInM K true) ninF := fun F H x y a b rv Q hs ha hb e g => by
  unfold ninF at e
  split at e
  · split at e
    · rename_i hl
      cases e
      obtain ⟨p, us, rfl, h1, h2⟩ := dpt_lst hs hb
      have hx := flat_dpt ha hl.1
      exact .inl ⟨p, us, rfl, .inl h1, flat_dp hx hl.1, flat_dps h2 hl.2, by rw [mem_dps hx hl.1 h2 hl.2]; exact g.bool⟩
    · cases e
  · split at e
    · rename_i hl
      cases e
      obtain ⟨p, us, rfl, h1, h2⟩ := dpt_tup hs hb
      have hx := flat_dpt ha hl.1
      exact .inl ⟨p, us, rfl, .inr h1, flat_dp hx hl.1, flat_dps h2 hl.2, by rw [mem_dps hx hl.1 h2 hl.2]; exact g.bool⟩
    · cases e
  · cases e; exact .inr ⟨_, _, dpt_str ha, dpt_str hb, g.bool⟩
  · cases e
end

/-! ### subscripts -/
noncomputable def ixF : D → D → Option Rv
  | .list ds, .int i => (atI ds i).map Rv.val
  | .tuple ds, .int i => (atI ds i).map Rv.val
  | .str z, .int i => if Ok (z.length ≤ big) then (atI z.cps.toList i).map fun c => Rv.val (.str ⟨#[c]⟩) else none
  | _, _ => none
theorem atI_dps {K : PySem.W.Frag} {F : Hp} {vs : List V} {ds : List D} {i : Int} {d : D} (h : DpAll K F vs ds) (e : atI ds i = some d) : ∃ v, atI vs i = some v ∧ Dp K F v d := by
  unfold atI at e ⊢
  rw [dps_len h]
  obtain ⟨j, h1, h2⟩ := Option.bind_eq_some_iff.mp e
  obtain ⟨v, h3, h4⟩ := dps_get h h2
  exact ⟨v, Option.bind_eq_some_iff.mpr ⟨j, h1, h3⟩, h4⟩
theorem ix_ok {K : PySem.W.Frag} : Op2 K (rIx K) ixF := fun F H x y a b rv Q hs ha hb e g => by
  unfold ixF at e
  split at e
  · obtain ⟨d, e1, rfl⟩ := Option.map_eq_some_iff.mp e
    obtain ⟨p, us, rfl, h1, h2⟩ := dpt_lst hs ha
    obtain ⟨v, h3, h4⟩ := atI_dps h2 e1
    exact .inl ⟨p, us, _, v, rfl, dpt_int hb, h1, h3, g.1 v h4⟩
  · obtain ⟨d, e1, rfl⟩ := Option.map_eq_some_iff.mp e
    obtain ⟨p, us, rfl, h1, h2⟩ := dpt_tup hs ha
    obtain ⟨v, h3, h4⟩ := atI_dps h2 e1
    exact .inr (.inl ⟨p, us, _, v, rfl, dpt_int hb, h1, h3, g.1 v h4⟩)
  · split at e
    · rename_i hl
      obtain ⟨c, e1, rfl⟩ := Option.map_eq_some_iff.mp e
      exact .inr (.inr ⟨_, _, c, dpt_str ha, dpt_int hb, big_le hl, e1, g.str⟩)
    · cases e
  · cases e
section
variable {X : Cx} {cl : Cl} {W : WX} {a b : Expr} {pos : Pos} {ma mb : M Ret}
theorem den_item (ha : PE X a (tM X.K cl W ma)) (hb : PE X b (tM X.K cl W mb)) (hs : PlainIx b := by exact fun _ _ => rfl) : PE X (.Subscript a b pos) (tM X.K cl W (m2 ixF ma mb)) := den_ix ix_seq ix_ok ha hb hs
end

/-! ### lists of numbers, of truths -/
def intsOf : List D → Option (List Int)
  | [] => some []
  | .int i :: ds => (intsOf ds).map (i :: ·)
  | _ :: _ => none
def blsOf : List D → Option (List Bool)
  | [] => some []
  | .bool i :: ds => (blsOf ds).map (i :: ·)
  | _ :: _ => none
theorem intsOf_eq : ∀ {ds : List D} {is : List Int}, intsOf ds = some is → ds = is.map PyData.int
  | [], is, h => by cases h; rfl
  | .int i :: ds, is, h => by
    obtain ⟨js, h1, rfl⟩ := Option.map_eq_some_iff.mp h
    rw [intsOf_eq h1]; rfl
  | .none :: _, _, h => by cases h
  | .bool _ :: _, _, h => by cases h
  | .str _ :: _, _, h => by cases h
  | .list _ :: _, _, h => by cases h
  | .tuple _ :: _, _, h => by cases h
  | .dict _ :: _, _, h => by cases h
@[simp] theorem intsOf_map : ∀ is : List Int, intsOf (is.map PyData.int) = some is
  | [] => rfl
  | i :: is => by show (intsOf (is.map PyData.int)).map (i :: ·) = _; rw [intsOf_map is]; rfl
theorem blsOf_eq : ∀ {ds : List D} {is : List Bool}, blsOf ds = some is → ds = is.map PyData.bool
  | [], is, h => by cases h; rfl
  | .bool i :: ds, is, h => by
    obtain ⟨js, h1, rfl⟩ := Option.map_eq_some_iff.mp h
    rw [blsOf_eq h1]; rfl
  | .none :: _, _, h => by cases h
  | .int _ :: _, _, h => by cases h
  | .str _ :: _, _, h => by cases h
  | .list _ :: _, _, h => by cases h
  | .tuple _ :: _, _, h => by cases h
  | .dict _ :: _, _, h => by cases h
@[simp] theorem blsOf_map : ∀ is : List Bool, blsOf (is.map PyData.bool) = some is
  | [] => rfl
  | i :: is => by show (blsOf (is.map PyData.bool)).map (i :: ·) = _; rw [blsOf_map is]; rfl
/-- the least, the greatest of a list that isn't empty -/
def minI : List Int → Int
  | [] => 0
  | [i] => i
  | i :: is => if minI is < i then minI is else i
def maxI : List Int → Int
  | [] => 0
  | [i] => i
  | i :: is => if i < maxI is then maxI is else i
theorem minI_spec : ∀ is : List Int, is ≠ [] → minI is ∈ is ∧ ∀ y ∈ is, minI is ≤ y
  | [], h => absurd rfl h
  | [i], _ => by simp [minI]
  | i :: j :: is, _ => by
    obtain ⟨h1, h2⟩ := minI_spec (j :: is) (by simp)
    unfold minI
    split
    · rename_i h
      refine ⟨List.mem_cons_of_mem _ h1, fun y hy => ?_⟩
      rcases List.mem_cons.mp hy with rfl | hy
      · omega
      · exact h2 y hy
    · rename_i h
      refine ⟨List.mem_cons_self, fun y hy => ?_⟩
      rcases List.mem_cons.mp hy with rfl | hy
      · omega
      · have := h2 y hy; omega
theorem maxI_spec : ∀ is : List Int, is ≠ [] → maxI is ∈ is ∧ ∀ y ∈ is, y ≤ maxI is
  | [], h => absurd rfl h
  | [i], _ => by simp [maxI]
  | i :: j :: is, _ => by
    obtain ⟨h1, h2⟩ := maxI_spec (j :: is) (by simp)
    unfold maxI
    split
    · rename_i h
      refine ⟨List.mem_cons_of_mem _ h1, fun y hy => ?_⟩
      rcases List.mem_cons.mp hy with rfl | hy
      · omega
      · exact h2 y hy
    · rename_i h
      refine ⟨List.mem_cons_self, fun y hy => ?_⟩
      rcases List.mem_cons.mp hy with rfl | hy
      · omega
      · have := h2 y hy; omega
theorem minI_eq {is : List Int} {m : Int} (h : m ∈ is) (h2 : ∀ y ∈ is, m ≤ y) : m = minI is := by
  have hne : is ≠ [] := fun e => by rw [e] at h; cases h
  obtain ⟨h3, h4⟩ := minI_spec is hne
  have := h2 _ h3
  have := h4 _ h
  omega
theorem maxI_eq {is : List Int} {m : Int} (h : m ∈ is) (h2 : ∀ y ∈ is, y ≤ m) : m = maxI is := by
  have hne : is ≠ [] := fun e => by rw [e] at h; cases h
  obtain ⟨h3, h4⟩ := maxI_spec is hne
  have := h2 _ h3
  have := h4 _ h
  omega
/-- the numbers, rising -/
def sortI (is : List Int) : List Int := is.mergeSort (fun a b => decide (a ≤ b))
theorem sortI_spec (is : List Int) : (sortI is).Perm is ∧ (sortI is).Pairwise (· ≤ ·) := by
  refine ⟨List.mergeSort_perm _ _, ?_⟩
  have h := List.pairwise_mergeSort (le := fun a b : Int => decide (a ≤ b)) (fun a b c h1 h2 => by simp at h1 h2 ⊢; omega) (fun a b => by simp; omega) is
  exact h.imp fun h => by simpa using h
theorem sortI_eq {is js : List Int} (h : js.Perm is) (h2 : js.Pairwise (· ≤ ·)) : js = sortI is :=
  PySem.W.ksm_same (h.trans (sortI_spec is).1.symm) h2 (sortI_spec is).2
end MP

namespace MP
open PySem PySem.Spec L2

/-! ### calls of the builtins -/
section
variable {K : PySem.W.Frag} {F H : Hp}
theorem dpts1 {vs : List V} {d : D} (h : DpTs K F H vs [d]) : ∃ v, vs = [v] ∧ DpT K F H v d := by
  cases h with
  | cons a b => cases b; exact ⟨_, rfl, a⟩
theorem dpts2 {vs : List V} {d e : D} (h : DpTs K F H vs [d, e]) : ∃ v w, vs = [v, w] ∧ DpT K F H v d ∧ DpT K F H w e := by
  cases h with
  | cons a b =>
    cases b with
    | cons a' b' => cases b'; exact ⟨_, _, rfl, a, a'⟩
end
noncomputable def lenF : List D → Option Rv
  | [.str y] => if Ok (y.length ≤ big) then some (.val (.int y.length)) else none
  | [.list ds] => some (.val (.int ds.length))
  | [.tuple ds] => some (.val (.int ds.length))
  | _ => none
theorem len_ok {K : PySem.W.Frag} : OpN K (fun xs H Q => ∃ x n, xs = [x] ∧ LenV K x H n ∧ Q (.int n) H) lenF := fun F H xs as rv Q hs hd e g => by
  unfold lenF at e
  split at e
  · rename_i y
    split at e
    · rename_i hl
      cases e
      obtain ⟨v, rfl, h⟩ := dpts1 hd
      exact ⟨v, y.length, rfl, by rw [dpt_str h]; exact ⟨big_le hl, rfl⟩, g.int⟩
    · cases e
  · rename_i ds
    cases e
    obtain ⟨v, rfl, h⟩ := dpts1 hd
    obtain ⟨a, us, rfl, h1, h2⟩ := dpt_lst hs h
    exact ⟨_, ds.length, rfl, .inl ⟨us, h1, (dps_len h2).symm⟩, g.int⟩
  · rename_i ds
    cases e
    obtain ⟨v, rfl, h⟩ := dpts1 hd
    obtain ⟨a, us, rfl, h1, h2⟩ := dpt_tup hs h
    exact ⟨_, ds.length, rfl, .inr ⟨us, h1, (dps_len h2).symm⟩, g.int⟩
  · cases e
def listF : List D → Option Rv
  | [.list ds] => some (.own (.lst ds))
  | [.tuple ds] => some (.own (.lst ds))
  | _ => none
theorem list_ok {K : PySem.W.Frag} : OpN K (fun xs H Q => ∃ p ys, xs = [.ref p] ∧ (SqL K H p ys ∨ SqT K H p ys) ∧ ∀ l, H l = none → Q (.ref l) (upd H l (.lst ys))) listF := fun F H xs as rv Q hs hd e g => by
  unfold listF at e
  split at e
  · cases e
    obtain ⟨v, rfl, h⟩ := dpts1 hd
    obtain ⟨a, us, rfl, h1, h2⟩ := dpt_lst hs h
    exact ⟨a, us, rfl, .inl h1, fun l hl => g l _ hl ⟨us, rfl, h2⟩⟩
  · cases e
    obtain ⟨v, rfl, h⟩ := dpts1 hd
    obtain ⟨a, us, rfl, h1, h2⟩ := dpt_tup hs h
    exact ⟨a, us, rfl, .inr h1, fun l hl => g l _ hl ⟨us, rfl, h2⟩⟩
  · cases e
def tupleF : List D → Option Rv
  | [.list ds] => some (.val (.tuple ds))
  | [.tuple ds] => some (.val (.tuple ds))
  | _ => none
theorem tuple_ok {K : PySem.W.Frag} : OpN K (fun xs H Q => ∃ p ys, xs = [.ref p] ∧ ((SqL K H p ys ∧ ∀ l, H l = none → Q (.ref l) (upd H l (.tup ys))) ∨ (SqT K H p ys ∧ Q (.ref p) H))) tupleF := fun F H xs as rv Q hs hd e g => by
  unfold tupleF at e
  split at e
  · cases e
    obtain ⟨v, rfl, h⟩ := dpts1 hd
    obtain ⟨a, us, rfl, h1, h2⟩ := dpt_lst hs h
    exact ⟨a, us, rfl, .inl ⟨h1, fun l hl => g.2 _ l us rfl hl h2⟩⟩
  · cases e
    obtain ⟨v, rfl, h⟩ := dpts1 hd
    have h' := dp_tup' h
    obtain ⟨a, us, rfl, h1, h2⟩ := dpt_tup hs h
    exact ⟨a, us, rfl, .inr ⟨h1, g.1 _ h'⟩⟩
  · cases e
def absF : List D → Option Rv
  | [.int i] => some (.val (.int (if i < 0 then -i else i)))
  | _ => none
theorem abs_ok {K : PySem.W.Frag} : OpN K (fun xs H Q => ∃ i, xs = [.int i] ∧ Q (.int (if i < 0 then -i else i)) H) absF := fun F H xs as rv Q hs hd e g => by
  unfold absF at e
  split at e
  · cases e
    obtain ⟨v, rfl, h⟩ := dpts1 hd
    exact ⟨_, by rw [dpt_int h], g.int⟩
  · cases e
def intF : List D → Option Rv
  | [.int i] => some (.val (.int i))
  | [.bool k] => some (.val (.int (if k then 1 else 0)))
  | _ => none
theorem int_ok {K : PySem.W.Frag} : OpN K (fun xs H Q => (∃ i, xs = [.int i] ∧ Q (.int i) H) ∨ ∃ k, xs = [.bl k] ∧ Q (.int (if k then 1 else 0)) H) intF := fun F H xs as rv Q hs hd e g => by
  unfold intF at e
  split at e
  · cases e
    obtain ⟨v, rfl, h⟩ := dpts1 hd
    exact .inl ⟨_, by rw [dpt_int h], g.int⟩
  · cases e
    obtain ⟨v, rfl, h⟩ := dpts1 hd
    exact .inr ⟨_, by rw [dpt_bl h], g.int⟩
  · cases e
noncomputable def strF : List D → Option Rv
  | [.int i] => if Ok (i.natAbs.log2 < 1920) then some (.val (.str (toString i))) else none
  | _ => none
theorem str_ok {K : PySem.W.Frag} : OpN K (fun xs H Q => ∃ i, xs = [.int i] ∧ i.natAbs.log2 < 1920 ∧ Q (.str (toString i)) H) strF := fun F H xs as rv Q hs hd e g => by
  unfold strF at e
  split at e
  · split at e
    · rename_i hl
      cases e
      obtain ⟨v, rfl, h⟩ := dpts1 hd
      exact ⟨_, by rw [dpt_int h], hl, g.str⟩
    · cases e
  · cases e

/-! ### tuples, too -/
section
open PyProof.Rows
variable {prog : Program} {w : World} {A : Around} {E : Value → Shared → Prop} {s : Shared} {l : Addr} {its : List Value} {ns : List Int} {Q : Value → Shared → Prop}
theorem iter_tupI {items : Array Value} (hl : s.heap.IsTuple l items)
    (h : ∀ s₂ : Shared, s₂ = { s with heap := s.heap.push { cls := .type "tuple_iterator", data := .fields #[.ref l, .int 0 0] } } →
      (s₂.heap.IsTupleIter s.heap.objs.size l 0 ∧ s₂.heap.IsTuple l items) → (∀ b ∈ [s.heap.objs.size, l], b < s₂.heap.objs.size) → l ≠ s.heap.objs.size → Q (.ref s.heap.objs.size) s₂) :
    wpAny (model prog w) A (pyIter (.ref l)) Q E s := by
  have hlt : l < s.heap.objs.size := by obtain ⟨_, e, _⟩ := hl; exact Heap.lt_size e
  refine wpAny_pyIter_tuple hl (h _ rfl ⟨⟨_, Heap.get?_push_size _ rfl, rfl, rfl⟩, hl.push _⟩ (fun b hb => ?_) (Nat.ne_of_lt hlt))
  show b < (s.heap.push _).objs.size
  rw [Heap.size_push]
  rcases List.mem_cons.mp hb with rfl | hb
  · exact Nat.lt_succ_self _
  · rcases List.mem_cons.mp hb with rfl | hb
    · exact Nat.lt_succ_of_lt hlt
    · cases hb
theorem old_keptT {o : Obj} {h' : Heap} (hk : ∀ b o', b ∉ [s.heap.objs.size] → (s.heap.push o).get? b = some o' → h'.get? b = some o') :
    ∀ b o, s.heap.get? b = some o → h'.get? b = some o := fun b o e => by
  refine hk b o (fun hm => ?_) (Heap.get?_push_of_some _ e)
  rcases List.mem_cons.mp hm with e1 | hm
  · exact absurd (e1 ▸ Heap.lt_size e) (Nat.lt_irrefl _)
  · cases hm
theorem max_rawT (hh : A.handled = none) (hl : s.heap.IsTuple l its.toArray) (hi : IntsAre its ns) (hne : 0 < ns.length)
    (h : ∀ h' tk M t', (∀ b o, s.heap.get? b = some o → h'.get? b = some o) → M ∈ ns → (∀ a, a ∈ ns → a ≤ M) → Q (.int M t') { s with heap := h', toks := tk }) : wpAny (model prog w) A (call (.builtin "max") [.ref l]) Q E s := by
  obtain ⟨xs, e⟩ := hi.allInts.items
  have hn : numsOf (intItems xs).toList = ns := by rw [← e]; exact hi.numsOf
  rw [nums_intItems] at hn
  subst hn
  rw [e] at hl
  have hsz : 0 < xs.size := by simpa using hne
  refine call_max_walk (iter_tupI hl fun s₂ e st hfp hlI => ?_)
  subst e
  refine ⟨_, _, _, _, _, _, _, rfl, Walks.tuple (A := A.in1) hh _ l hlI (intItems xs), st, hfp, by simpa [intItems] using hsz, CmpOf.ints_gt (numAt xs) (fun _ _ => intItems_at), fun v h' tk hP hk => ?_⟩
  have hv : (intItems xs)[argBest (fun i j => decide (numAt xs i > numAt xs j)) (xs.size - 1)]? = some v := by simpa [intItems] using hP
  obtain ⟨t, rfl⟩ := intItems_at hv
  obtain ⟨h1, h2⟩ := argBest_gt (numAt xs) (xs.size - 1)
  refine h h' tk _ t (old_keptT hk) ?_ fun a ha => ?_
  · rw [numAt_eq]; exact PySem.getD_mem (by rw [List.length_map, Array.length_toList]; omega)
  · obtain ⟨j, hj, rfl⟩ := mem_getD ha
    rw [List.length_map, Array.length_toList] at hj
    rw [← numAt_eq]; exact h2 j (by omega)
theorem min_rawT (hh : A.handled = none) (hl : s.heap.IsTuple l its.toArray) (hi : IntsAre its ns) (hne : 0 < ns.length)
    (h : ∀ h' tk M t', (∀ b o, s.heap.get? b = some o → h'.get? b = some o) → M ∈ ns → (∀ a, a ∈ ns → M ≤ a) → Q (.int M t') { s with heap := h', toks := tk }) : wpAny (model prog w) A (call (.builtin "min") [.ref l]) Q E s := by
  obtain ⟨xs, e⟩ := hi.allInts.items
  have hn : numsOf (intItems xs).toList = ns := by rw [← e]; exact hi.numsOf
  rw [nums_intItems] at hn
  subst hn
  rw [e] at hl
  have hsz : 0 < xs.size := by simpa using hne
  refine call_min_walk (iter_tupI hl fun s₂ e st hfp hlI => ?_)
  subst e
  refine ⟨_, _, _, _, _, _, _, rfl, Walks.tuple (A := A.in1) hh _ l hlI (intItems xs), st, hfp, by simpa [intItems] using hsz, CmpOf.ints_lt (numAt xs) (fun _ _ => intItems_at), fun v h' tk hP hk => ?_⟩
  have hv : (intItems xs)[argBest (fun i j => decide (numAt xs i < numAt xs j)) (xs.size - 1)]? = some v := by simpa [intItems] using hP
  obtain ⟨t, rfl⟩ := intItems_at hv
  obtain ⟨h1, h2⟩ := argBest_lt (numAt xs) (xs.size - 1)
  refine h h' tk _ t (old_keptT hk) ?_ fun a ha => ?_
  · rw [numAt_eq]; exact PySem.getD_mem (by rw [List.length_map, Array.length_toList]; omega)
  · obtain ⟨j, hj, rfl⟩ := mem_getD ha
    rw [List.length_map, Array.length_toList] at hj
    rw [← numAt_eq]; exact h2 j (by omega)
/-- what is collected of a tuple -/
theorem collect_tup {l : Addr} {vs : List Value} {Q : List Value → Shared → Prop} (hl : s.heap.IsTuple l vs.toArray)
    (h : Q vs { s with heap := (s.heap.push (seqObj "list" #[] 0)).update s.heap.objs.size (Obj.mapSeq (· ++ vs.toArray)) }) (hsz : vs.length ≤ sizeLine) :
    wpAny (model prog w) A (collect (.ref l)) Q E s := by
  obtain ⟨o, ho, hc, n, hd⟩ := id hl
  unfold collect
  refine wpAny_bind (wpAny_runValue (codeAny_builtin entry_proto_collect' ?_))
  show wpAny _ _ (do again (.builtin "list.__iadd__" ⟨[← newList [], .ref l], []⟩)) _ _ s
  refine wpAny_bind (wpAny_newList (wpAny_pure ⟨Code.quiet_builtin _ (by decide +kernel), codeAny_builtin entry_list_iadd' ?_⟩))
  show wpAny _ _ (Builtin.List.listExtendWith (.ref s.heap.objs.size) (.ref l) (.ref s.heap.objs.size)) _ _ { s with heap := s.heap.push (seqObj "list" #[] 0) }
  unfold Builtin.List.listExtendWith
  have ho' : (s.heap.push (seqObj "list" #[] 0)).get? l = some o := Heap.get?_push_of_some _ ho
  refine wpAny_bind (wpAny_typeOf (T := "tuple") ⟨o, ho', hc⟩ ?_)
  have ht : (Value.type "tuple" == Value.type "tuple") = true := by rfl
  rw [if_pos (by rw [ht]; simp)]
  refine wpAny_bind (listItems_at ho' hd ?_)
  refine wpAny_bind (listItems_at (xs := #[]) (n := 0) (Heap.get?_push_size _ rfl) rfl ?_)
  rw [if_neg (by simp)]
  refine wpAny_bind (listUpdate_at (xs := #[]) (n := 0) (Heap.get?_push_size _ rfl) rfl ?_ (Nat.zero_le _) (by show (#[] ++ vs.toArray).size ≤ sizeLine + 1; simp only [Array.size_append, List.size_toArray, List.length_nil]; omega))
  refine wpAny_pure ?_
  show wpAny (model prog w) A (do
      let o ← load s.heap.objs.size
      match o.data with
      | .seq xs _ => pure xs.toList
      | _ => unsupported "internal:collect") Q E { s with heap := (s.heap.push (seqObj "list" #[] 0)).update s.heap.objs.size (Obj.mapSeq (· ++ vs.toArray)) }
  refine wpAny_bind (wpAny_load (get?_update_seq (Heap.get?_push_size _ rfl) _) ?_)
  show wpAny _ _ (pure ((#[] : Array Value) ++ vs.toArray).toList) Q E _
  rw [show ((#[] : Array Value) ++ vs.toArray).toList = vs by simp]
  exact wpAny_pure h
open SrtO Srt in
theorem sorted_ordT {l : Addr} {vs : List Value} {ltv : Value → Value → Bool} {Q : Value → Shared → Prop} (O : Swo ltv) (hl : s.heap.IsTuple l vs.toArray) (hz : vs.length ≤ sizeLine)
    (hS : 2 ≤ vs.length → ∀ (h₁ : Heap) (a : Addr), h₁.get? a = some (seqObj "list" vs.toArray 0) → (∀ b o, s.heap.get? b = some o → b ≠ a ∧ h₁.get? b = some o) → SortableO prog w A.in1.in1 { s with heap := h₁ } a vs ltv)
    (h : ∀ out : List Value, Srtd ltv out → Stb ltv out vs → Q (.ref (s.heap.objs.size + 1)) { s with heap := sortedAll s.heap vs out.toArray }) :
    wpAny (model prog w) A (call (.builtin "sorted") [.ref l]) Q E s := by
  refine Calls.call_function_entry kind_sorted plain_sorted entry_sorted (args_sorted1 _) ?_
  unfold Builtin.«sorted»
  refine wpAny_bind (m := checkCount "sorted" 1 1 _) (wpAny_pure ?_)
  refine wpAny_bind (collect_tup hl ?_ hz)
  refine wpAny_bind (wpAny_newList ?_ hz)
  have hsz : ((s.heap.push (seqObj "list" #[] 0)).update s.heap.objs.size (Obj.mapSeq (· ++ vs.toArray))).objs.size = s.heap.objs.size + 1 := by
    rw [Heap.size_update, size_push']
  have hoL : (((s.heap.push (seqObj "list" #[] 0)).update s.heap.objs.size (Obj.mapSeq (· ++ vs.toArray))).push (seqObj "list" vs.toArray 0)).get? (s.heap.objs.size + 1) = some (seqObj "list" vs.toArray 0) := by
    rw [← hsz]; exact Heap.get?_push_size _ rfl
  have keep : ∀ b o, s.heap.get? b = some o → b ≠ s.heap.objs.size + 1 ∧ (((s.heap.push (seqObj "list" #[] 0)).update s.heap.objs.size (Obj.mapSeq (· ++ vs.toArray))).push (seqObj "list" vs.toArray 0)).get? b = some o := fun b o q => by
    have hlt : b < s.heap.objs.size := Heap.lt_size q
    refine ⟨Nat.ne_of_lt (Nat.lt_succ_of_lt hlt), Heap.get?_push_of_some _ ?_⟩
    rw [Heap.get?_update_ne _ _ _ _ (Nat.ne_of_lt hlt)]
    exact Heap.get?_push_of_some _ q
  show wpAny _ _ _ _ _ { s with heap := ((s.heap.push (seqObj "list" #[] 0)).update s.heap.objs.size (Obj.mapSeq (· ++ vs.toArray))).push (seqObj "list" vs.toArray 0) }
  rw [hsz]
  refine wpAny_bind (wpAny_holding (wpAny_call_entry slot_list_sort ⟨_, hoL, rfl⟩ entry_list_sort (list_sort_ord O hoL hz (fun h2 => hS h2 _ _ hoL keep) fun out hs hb => ⟨_, rfl, ?_⟩) (args_list_sort _)))
  exact wpAny_pure ⟨_, rfl, h out hs hb⟩
end
def rMaxT (K : PySem.W.Frag) : List V → Hp → VK → Prop := fun vs H Q => ∃ (a : Addr) (ns : List Int), vs = [V.ref a] ∧ SqT K H a (ns.map V.int) ∧ 0 < ns.length ∧ ∀ m, m ∈ ns → (∀ y, y ∈ ns → y ≤ m) → Q (.int m) H
def rMinT (K : PySem.W.Frag) : List V → Hp → VK → Prop := fun vs H Q => ∃ (a : Addr) (ns : List Int), vs = [V.ref a] ∧ SqT K H a (ns.map V.int) ∧ 0 < ns.length ∧ ∀ m, m ∈ ns → (∀ y, y ∈ ns → m ≤ y) → Q (.int m) H
def rSrtT (K : PySem.W.Frag) : List V → Hp → VK → Prop := fun vs H Q => ∃ (a : Addr) (ns : List Int), vs = [V.ref a] ∧ SqT K H a (ns.map V.int) ∧
  ∀ (ns' : List Int) (p : Addr), ns'.Perm ns → ns'.Pairwise (· ≤ ·) → H p = none → Q (.ref p) (upd H p (.lst (ns'.map V.int)))
section
variable {X : Cx}
theorem cr_maxTu (hc : X.calm = true) : CallR X (.builtin "max") (rMaxT X.K) := by
  intro pins s σ H vs us Q I r h
  obtain ⟨a, ns, rfl, hs, hne, q⟩ := h
  obtain ⟨its, rv, hl, _⟩ := I.tuple hs
  rw [Vals.ref1 r]
  exact max_rawT (I.ok.hd hc) hl rv.ints hne fun h' tk m t' hk h1 h2 => ⟨.int _, H, I.kept hk, ⟨_, rfl⟩, q m h1 h2⟩
theorem cr_minTu (hc : X.calm = true) : CallR X (.builtin "min") (rMinT X.K) := by
  intro pins s σ H vs us Q I r h
  obtain ⟨a, ns, rfl, hs, hne, q⟩ := h
  obtain ⟨its, rv, hl, _⟩ := I.tuple hs
  rw [Vals.ref1 r]
  exact min_rawT (I.ok.hd hc) hl rv.ints hne fun h' tk m t' hk h1 h2 => ⟨.int _, H, I.kept hk, ⟨_, rfl⟩, q m h1 h2⟩
theorem cr_sortedTu : CallR X (.builtin "sorted") (rSrtT X.K) := by
  intro pins s σ H vs us Q I r h
  obtain ⟨a, ns, rfl, hs, q⟩ := h
  obtain ⟨its, rv, hl, hz⟩ := I.tuple hs
  rw [Vals.ref1 r]
  have hi := rv.ints
  refine sorted_ordT SrtO.swo_int hl (by rw [← rv.length]; exact hz) (fun h2 h₁ a' _ _ => SrtO.ints_sortable hi h2) fun out h1 h2 => ?_
  obtain ⟨k1, k2, k3⟩ := SrtO.ints_out hi h1 h2
  obtain ⟨ep, he'⟩ := PyProof.Rows.sortedAll_at s.heap its out.toArray
  have hlen : ((out.map SrtO.iv).map V.int).length ≤ sizeLine := by
    rw [List.length_map, k2.length_eq]
    rw [List.length_map] at hz
    exact hz
  exact ⟨.ref _, upd H (s.heap.objs.size + 1) (.lst ((out.map SrtO.iv).map V.int)), I.laid (t' := s.toks) (fun _ _ => PyProof.Rows.sortedAll_old) (Nat.le_succ _) ⟨hlen, out, ep, vals_of_ints k1, he'⟩, rfl, q _ _ k2 k3 (I.hok.fresh (Nat.le_succ _))⟩
end
section
variable {K : PySem.W.Frag} {F H : Hp}
/-- numbers in a list or a tuple -/
theorem sq_ints {v : V} {ds : List D} {is : List Int} (hs : Same F H) (hi : intsOf ds = some is) (h : DpT K F H v (.list ds)) : ∃ a, v = .ref a ∧ SqL K H a (is.map V.int) := by
  obtain ⟨a, us, rfl, h1, h2⟩ := dpt_lst hs h
  rw [intsOf_eq hi] at h2
  rw [dps_ints h2] at h1
  exact ⟨a, rfl, h1⟩
theorem sq_intsT {v : V} {ds : List D} {is : List Int} (hs : Same F H) (hi : intsOf ds = some is) (h : DpT K F H v (.tuple ds)) : ∃ a, v = .ref a ∧ SqT K H a (is.map V.int) := by
  obtain ⟨a, us, rfl, h1, h2⟩ := dpt_tup hs h
  rw [intsOf_eq hi] at h2
  rw [dps_ints h2] at h1
  exact ⟨a, rfl, h1⟩
theorem sq_bls {v : V} {ds : List D} {is : List Bool} (hs : Same F H) (hi : blsOf ds = some is) (h : DpT K F H v (.list ds)) : ∃ a, v = .ref a ∧ SqL K H a (is.map V.bl) := by
  obtain ⟨a, us, rfl, h1, h2⟩ := dpt_lst hs h
  rw [blsOf_eq hi] at h2
  rw [dps_bls h2] at h1
  exact ⟨a, rfl, h1⟩
end
def onInts (f : List Int → Option Rv) : List D → Option Rv
  | [.list ds] => (intsOf ds).bind f
  | [.tuple ds] => (intsOf ds).bind f
  | _ => none
def onIntsL (f : List Int → Option Rv) : List D → Option Rv
  | [.list ds] => (intsOf ds).bind f
  | _ => none
def onBlsL (f : List Bool → Option Rv) : List D → Option Rv
  | [.list ds] => (blsOf ds).bind f
  | _ => none
def sortedF : List D → Option Rv := onInts fun is => some (.own (.lst ((sortI is).map PyData.int)))
noncomputable def maxF : List D → Option Rv := onInts fun is => if Ok (is = []) then none else some (.val (.int (maxI is)))
noncomputable def minF : List D → Option Rv := onInts fun is => if Ok (is = []) then none else some (.val (.int (minI is)))
def sumF : List D → Option Rv := onIntsL fun is => some (.val (.int is.sum))
def anyF : List D → Option Rv := onBlsL fun is => some (.val (.bool (is.any id)))
def allF : List D → Option Rv := onBlsL fun is => some (.val (.bool (is.all id)))
section
variable {K : PySem.W.Frag}
theorem onInts_ok {rL rT : List V → Hp → VK → Prop} {f : List Int → Option Rv}
    (hL : ∀ (F H : Hp) (a : Addr) (is : List Int) (rv : Rv) (Q : VK), SqL K H a (is.map V.int) → f is = some rv → Gives K F H Q rv → rL [.ref a] H Q)
    (hT : ∀ (F H : Hp) (a : Addr) (is : List Int) (rv : Rv) (Q : VK), SqT K H a (is.map V.int) → f is = some rv → Gives K F H Q rv → rT [.ref a] H Q) : OpN K (fun xs H Q => rL xs H Q ∨ rT xs H Q) (onInts f) := fun F H xs as rv Q hs hd e g => by
  unfold onInts at e
  split at e
  · obtain ⟨is, h1, h2⟩ := Option.bind_eq_some_iff.mp e
    obtain ⟨v, rfl, h⟩ := dpts1 hd
    obtain ⟨a, rfl, h3⟩ := sq_ints hs h1 h
    exact .inl (hL F H a is rv Q h3 h2 g)
  · obtain ⟨is, h1, h2⟩ := Option.bind_eq_some_iff.mp e
    obtain ⟨v, rfl, h⟩ := dpts1 hd
    obtain ⟨a, rfl, h3⟩ := sq_intsT hs h1 h
    exact .inr (hT F H a is rv Q h3 h2 g)
  · cases e
theorem sorted_ok : OpN K (fun xs H Q => rSortedI K xs H Q ∨ rSrtT K xs H Q) sortedF := onInts_ok
  (fun F H a is rv Q h e g => by cases e; exact ⟨a, is, rfl, h, fun ns' p h1 h2 hp => by rw [sortI_eq h1 h2]; exact g p _ hp ⟨_, rfl, dps_of_ints _⟩⟩)
  (fun F H a is rv Q h e g => by cases e; exact ⟨a, is, rfl, h, fun ns' p h1 h2 hp => by rw [sortI_eq h1 h2]; exact g p _ hp ⟨_, rfl, dps_of_ints _⟩⟩)
theorem pos_len {is : List Int} (h : is ≠ []) : 0 < is.length := by
  cases is with
  | nil => exact absurd rfl h
  | cons a b => simp
theorem max_ok : OpN K (fun xs H Q => rMax K xs H Q ∨ rMaxT K xs H Q) maxF := onInts_ok
  (fun F H a is rv Q h e g => by
    by_cases hn : is = []
    · rw [ok_pos hn] at e; cases e
    · rw [ok_neg hn] at e; cases e; exact ⟨a, is, rfl, h, pos_len hn, fun m h1 h2 => by rw [maxI_eq h1 h2]; exact g.int⟩)
  (fun F H a is rv Q h e g => by
    by_cases hn : is = []
    · rw [ok_pos hn] at e; cases e
    · rw [ok_neg hn] at e; cases e; exact ⟨a, is, rfl, h, pos_len hn, fun m h1 h2 => by rw [maxI_eq h1 h2]; exact g.int⟩)
theorem min_ok : OpN K (fun xs H Q => rMin K xs H Q ∨ rMinT K xs H Q) minF := onInts_ok
  (fun F H a is rv Q h e g => by
    by_cases hn : is = []
    · rw [ok_pos hn] at e; cases e
    · rw [ok_neg hn] at e; cases e; exact ⟨a, is, rfl, h, pos_len hn, fun m h1 h2 => by rw [minI_eq h1 h2]; exact g.int⟩)
  (fun F H a is rv Q h e g => by
    by_cases hn : is = []
    · rw [ok_pos hn] at e; cases e
    · rw [ok_neg hn] at e; cases e; exact ⟨a, is, rfl, h, pos_len hn, fun m h1 h2 => by rw [minI_eq h1 h2]; exact g.int⟩)
theorem sum_ok : OpN K (rSum K) sumF := fun F H xs as rv Q hs hd e g => by
  unfold sumF onIntsL at e
  split at e
  · obtain ⟨is, h1, h2⟩ := Option.bind_eq_some_iff.mp e
    obtain ⟨v, rfl, h⟩ := dpts1 hd
    obtain ⟨a, rfl, h3⟩ := sq_ints hs h1 h
    cases h2
    exact ⟨a, is, rfl, h3, g.int⟩
  · cases e
theorem any_ok : OpN K (rAny K) anyF := fun F H xs as rv Q hs hd e g => by
  unfold anyF onBlsL at e
  split at e
  · obtain ⟨is, h1, h2⟩ := Option.bind_eq_some_iff.mp e
    obtain ⟨v, rfl, h⟩ := dpts1 hd
    obtain ⟨a, rfl, h3⟩ := sq_bls hs h1 h
    cases h2
    exact ⟨a, is, rfl, h3, g.bool⟩
  · cases e
theorem all_ok : OpN K (rAll K) allF := fun F H xs as rv Q hs hd e g => by
  unfold allF onBlsL at e
  split at e
  · obtain ⟨is, h1, h2⟩ := Option.bind_eq_some_iff.mp e
    obtain ⟨v, rfl, h⟩ := dpts1 hd
    obtain ⟨a, rfl, h3⟩ := sq_bls hs h1 h
    cases h2
    exact ⟨a, is, rfl, h3, g.bool⟩
  · cases e
end
end MP

namespace MP
open PySem PySem.Spec L2

/-! ### max, min of two numbers -/
def max2F : List D → Option Rv
  | [.int i, .int j] => some (.val (.int (if j > i then j else i)))
  | _ => none
def min2F : List D → Option Rv
  | [.int i, .int j] => some (.val (.int (if j < i then j else i)))
  | _ => none
theorem max2_ok {K : PySem.W.Frag} : OpN K (fun xs H Q => ∃ i j, xs = [.int i, .int j] ∧ Q (.int (if j > i then j else i)) H) max2F := fun F H xs as rv Q hs hd e g => by
  unfold max2F at e
  split at e
  · cases e
    obtain ⟨v, w, rfl, h1, h2⟩ := dpts2 hd
    exact ⟨_, _, by rw [dpt_int h1, dpt_int h2], g.int⟩
  · cases e
theorem min2_ok {K : PySem.W.Frag} : OpN K (fun xs H Q => ∃ i j, xs = [.int i, .int j] ∧ Q (.int (if j < i then j else i)) H) min2F := fun F H xs as rv Q hs hd e g => by
  unfold min2F at e
  split at e
  · cases e
    obtain ⟨v, w, rfl, h1, h2⟩ := dpts2 hd
    exact ⟨_, _, by rw [dpt_int h1, dpt_int h2], g.int⟩
  · cases e

/-! ### isinstance of data -/
inductive Ty where
  | int | bool | str | list | tuple
  deriving DecidableEq
def Ty.nm : Ty → String
  | .int => "int"
  | .bool => "bool"
  | .str => "str"
  | .list => "list"
  | .tuple => "tuple"
def isiB : Ty → D → Bool
  | .int, .int _ => true
  | .int, .bool _ => true
  | .bool, .bool _ => true
  | .str, .str _ => true
  | .list, .list _ => true
  | .tuple, .tuple _ => true
  | _, _ => false
def isiF (t : Ty) (d : D) : Option Rv := match d with
  | .dict _ => none
  | d => some (.val (.bool (isiB t d)))
section
variable {K : PySem.W.Frag} {F H : Hp}
def tyName : D → String
  | .none => "NoneType"
  | .bool _ => "bool"
  | .int _ => "int"
  | .str _ => "str"
  | .list _ => "list"
  | .tuple _ => "tuple"
  | .dict _ => "dict"
theorem tyx_of {v : V} {d : D} (hs : Same F H) (h : DpT K F H v d) (hd : ∀ x, d ≠ .dict x) : TyX K H v (.type (tyName d)) := by
  cases d with
  | list ds =>
    obtain ⟨a, us, rfl, h1, h2⟩ := dpt_lst hs h
    rcases h1 with (h1 | ⟨o, h1⟩) | ⟨o, its, n, h1, h3, _⟩
    · exact .base (.lst h1)
    · exact .base (.frz h1)
    · exact .kList h1 h3
  | none => cases (show Dp K F v _ from h); exact .base .non
  | bool b => cases (show Dp K F v _ from h); exact .base (.bl _)
  | int b => cases (show Dp K F v _ from h); exact .base (.int _)
  | str b => cases (show Dp K F v _ from h); exact .base (.str _)
  | tuple b =>
    obtain ⟨a, us, rfl, h1, h2⟩ := dpt_tup hs h
    rcases h1 with (h1 | ⟨o, h1⟩) | ⟨o, its, n, h1, h3, _⟩
    · exact .base (.tup h1)
    · exact .fTuple h1
    · exact .kTuple h1 h3
  | dict x => exact absurd rfl (hd x)
end
section
variable {K : PySem.W.Frag}
theorem isi_kit (t : Ty) (d : D) (hd : ∀ x, d ≠ .dict x) : PySem.W.kitOne K (.type (tyName d)) (.type t.nm) = some (isiB t d) := by
  cases d <;> cases t <;> first | rfl | exact absurd rfl (hd _)
variable {X : Cx} {cl : Cl} {W : WX} {e : Expr} {es : List Expr} {p p2 pos : Pos} {ma mb : M Ret}
theorem isi_eq {t : Ty} {d : D} {rv : Rv} (e : isiF t d = some rv) : (∀ x, d ≠ .dict x) ∧ rv = .val (.bool (isiB t d)) := by
  cases d with
  | dict x => cases e
  | none => cases e; exact ⟨fun _ z => (nomatch z), rfl⟩
  | bool x => cases e; exact ⟨fun _ z => (nomatch z), rfl⟩
  | int x => cases e; exact ⟨fun _ z => (nomatch z), rfl⟩
  | str x => cases e; exact ⟨fun _ z => (nomatch z), rfl⟩
  | list x => cases e; exact ⟨fun _ z => (nomatch z), rfl⟩
  | tuple x => cases e; exact ⟨fun _ z => (nomatch z), rfl⟩
theorem den_isi (t : Ty) {x : Str} (hg : Gl X "isinstance") (hm : X.mg "isinstance" = none) (gt : Gl X x) (mt : X.mg x = none) (hx : bootBuiltins x = some (.type t.nm)) (ha : PE X e (tM X.K cl W ma))
    (hn : x ≠ "__name__" := by decide) (hd : (x == ("__debug__" : Str)) = false := by decide) (hs1 : starEach [e, .Name x p2] X.env = (false, eval e X.env) :: starEach [.Name x p2] X.env := by rfl) (hs2 : starEach [.Name x p2] X.env = (false, eval (.Name x p2) X.env) :: starEach [] X.env := by rfl) (hpl : (backTo pos (starEach [.Name x p2] X.env)).any (·.1) = false := by rfl) :
    PE X (.Call (.Name "isinstance" p) [e, .Name x p2] [] pos) (tM X.K cl W (m1 (isiF t) ma)) :=
  PE.imp (pe_callB call_isi hg hm PyProof.Rows.boot_isinstance (pa_cons ha (pa_cons (pe_bltn gt mt hx (v := .ty t.nm) rfl hn hd) pa_nil hs2) hs1) (by decide) (by decide) hs1 hpl) fun σ H Q h =>
    tUn_of (r := fun y H Q => rIsi X.K [y, .ty t.nm] H Q) (f := isiF t) (fun F H y a rv Q hs hd' e' g => by
      obtain ⟨h1, rfl⟩ := isi_eq e'
      exact ⟨y, .ty t.nm, _, _, _, rfl, .ty _, tyx_of hs hd' h1, isi_kit t a h1, g.bool⟩) σ H Q h

/-! ### list(range(..)), tuple(range(..)) -/
def smallR (i j : Int) : Bool := decide (0 ≤ i) && decide (i ≤ 1000000) && decide (-1000000 ≤ j) && decide (j ≤ 1000000)
theorem smallR_ok {i j : Int} (h : smallR i j = true) : RgOk i j := by
  unfold smallR at h
  simp at h
  obtain ⟨⟨⟨h1, h2⟩, h3⟩, h4⟩ := h
  refine ⟨by omega, by omega, by omega, by omega, by omega⟩
noncomputable def lrg1F : D → Option Rv
  | .int j => if Ok (smallR 0 j = true) then some (.own (.lst (rangeD 0 j))) else none
  | _ => none
noncomputable def trg1F : D → Option Rv
  | .int j => if Ok (smallR 0 j = true) then some (.val (.tuple (rangeD 0 j))) else none
  | _ => none
noncomputable def lrg2F : D → D → Option Rv
  | .int i, .int j => if Ok (smallR i j = true) then some (.own (.lst (rangeD i j))) else none
  | _, _ => none
noncomputable def trg2F : D → D → Option Rv
  | .int i, .int j => if Ok (smallR i j = true) then some (.val (.tuple (rangeD i j))) else none
  | _, _ => none
theorem dps_fun {K : PySem.W.Frag} {F : Hp} (f : Nat → Int) : ∀ l : List Nat, DpAll K F (l.map fun i => V.int (f i)) (l.map fun i => PyData.int (f i))
  | [] => .nil
  | i :: l => .cons (.int _) (dps_fun f l)
theorem dps_rg {K : PySem.W.Frag} {F : Hp} {i j : Int} : DpAll K F (rgV i j) (rangeD i j) := dps_fun _ _
variable {hc : X.calm = true} {a b : Expr}
theorem den_lrg1 (hc : X.calm = true) (hg : Gl X "list") (hm : X.mg "list" = none) (hg2 : Gl X "range") (hm2 : X.mg "range" = none) (ha : PE X a (tM X.K cl W ma)) {q2 q3 : Pos} (na : starEach [a] X.env = (false, eval a X.env) :: starEach [] X.env := by rfl)
    (na2 : starEach [.Call (.Name "range" q2) [a] [] q3] X.env = (false, eval (.Call (.Name "range" q2) [a] [] q3) X.env) :: starEach [] X.env := by rfl) : PE X (.Call (.Name "list" p) [.Call (.Name "range" q2) [a] [] q3] [] pos) (tM X.K cl W (m1 lrg1F ma)) :=
  PE.imp (pe_listRg hc hg hm (prg_1 hg2 hm2 ha na) na2) fun σ H Q h => tUn_of (r := fun x H Q => ∃ n, x = .int n ∧ RgOk 0 n ∧ ∀ q, H q = none → Q (.ref q) (upd H q (.lst (rgV 0 n)))) (f := lrg1F) (fun F H y a rv Q hs hd' e' g => by
    unfold lrg1F at e'
    split at e'
    · split at e'
      · rename_i hl; cases e'; exact ⟨_, dpt_int hd', smallR_ok hl, fun q hq => g q _ hq ⟨_, rfl, dps_rg⟩⟩
      · cases e'
    · cases e') σ H Q h
theorem den_trg1 (hc : X.calm = true) (hg : Gl X "tuple") (hm : X.mg "tuple" = none) (hg2 : Gl X "range") (hm2 : X.mg "range" = none) (ha : PE X a (tM X.K cl W ma)) {q2 q3 : Pos} (na : starEach [a] X.env = (false, eval a X.env) :: starEach [] X.env := by rfl)
    (na2 : starEach [.Call (.Name "range" q2) [a] [] q3] X.env = (false, eval (.Call (.Name "range" q2) [a] [] q3) X.env) :: starEach [] X.env := by rfl) : PE X (.Call (.Name "tuple" p) [.Call (.Name "range" q2) [a] [] q3] [] pos) (tM X.K cl W (m1 trg1F ma)) :=
  PE.imp (pe_tupRg hc hg hm (prg_1 hg2 hm2 ha na) na2) fun σ H Q h => tUn_of (r := fun x H Q => ∃ n, x = .int n ∧ RgOk 0 n ∧ ∀ q, H q = none → Q (.ref q) (upd H q (.tup (rgV 0 n)))) (f := trg1F) (fun F H y a rv Q hs hd' e' g => by
    unfold trg1F at e'
    split at e'
    · split at e'
      · rename_i hl; cases e'; exact ⟨_, dpt_int hd', smallR_ok hl, fun q hq => g.2 _ q _ rfl hq dps_rg⟩
      · cases e'
    · cases e') σ H Q h
theorem den_lrg2 (hc : X.calm = true) (hg : Gl X "list") (hm : X.mg "list" = none) (hg2 : Gl X "range") (hm2 : X.mg "range" = none) (ha : PE X a (tM X.K cl W ma)) (hb : PE X b (tM X.K cl W mb)) {q2 q3 : Pos} (na : starEach [a, b] X.env = (false, eval a X.env) :: starEach [b] X.env := by rfl)
    (nb : starEach [b] X.env = (false, eval b X.env) :: starEach [] X.env := by rfl) (hp : (backTo q3 (starEach [b] X.env)).any (·.1) = false := by rfl)
    (na2 : starEach [.Call (.Name "range" q2) [a, b] [] q3] X.env = (false, eval (.Call (.Name "range" q2) [a, b] [] q3) X.env) :: starEach [] X.env := by rfl) : PE X (.Call (.Name "list" p) [.Call (.Name "range" q2) [a, b] [] q3] [] pos) (tM X.K cl W (m2 lrg2F ma mb)) :=
  PE.imp (pe_listRg hc hg hm (prg_2 hg2 hm2 ha hb na nb hp) na2) fun σ H Q h => tOp_of (r := fun x y H Q => ∃ i j, x = .int i ∧ y = .int j ∧ RgOk i j ∧ ∀ q, H q = none → Q (.ref q) (upd H q (.lst (rgV i j)))) (f := lrg2F) (fun F H y z a b rv Q hs hd' hd2 e' g => by
    unfold lrg2F at e'
    split at e'
    · split at e'
      · rename_i hl; cases e'; exact ⟨_, _, dpt_int hd', dpt_int hd2, smallR_ok hl, fun q hq => g q _ hq ⟨_, rfl, dps_rg⟩⟩
      · cases e'
    · cases e') σ H Q h
theorem den_trg2 (hc : X.calm = true) (hg : Gl X "tuple") (hm : X.mg "tuple" = none) (hg2 : Gl X "range") (hm2 : X.mg "range" = none) (ha : PE X a (tM X.K cl W ma)) (hb : PE X b (tM X.K cl W mb)) {q2 q3 : Pos} (na : starEach [a, b] X.env = (false, eval a X.env) :: starEach [b] X.env := by rfl)
    (nb : starEach [b] X.env = (false, eval b X.env) :: starEach [] X.env := by rfl) (hp : (backTo q3 (starEach [b] X.env)).any (·.1) = false := by rfl)
    (na2 : starEach [.Call (.Name "range" q2) [a, b] [] q3] X.env = (false, eval (.Call (.Name "range" q2) [a, b] [] q3) X.env) :: starEach [] X.env := by rfl) : PE X (.Call (.Name "tuple" p) [.Call (.Name "range" q2) [a, b] [] q3] [] pos) (tM X.K cl W (m2 trg2F ma mb)) :=
  PE.imp (pe_tupRg hc hg hm (prg_2 hg2 hm2 ha hb na nb hp) na2) fun σ H Q h => tOp_of (r := fun x y H Q => ∃ i j, x = .int i ∧ y = .int j ∧ RgOk i j ∧ ∀ q, H q = none → Q (.ref q) (upd H q (.tup (rgV i j)))) (f := trg2F) (fun F H y z a b rv Q hs hd' hd2 e' g => by
    unfold trg2F at e'
    split at e'
    · split at e'
      · rename_i hl; cases e'; exact ⟨_, _, dpt_int hd', dpt_int hd2, smallR_ok hl, fun q hq => g.2 _ q _ rfl hq dps_rg⟩
      · cases e'
    · cases e') σ H Q h
end

/-! ### methods that change a list of one's own -/
/-- the list and the arguments: the list then, and what is given -/
abbrev MF := List D → List D → Option (List D × D)
def ArgOk (K : PySem.W.Frag) (F H : Hp) (xs : List V) (as : List D) : Bool → Prop
  | true => DpAll K F xs as
  | false => DpTs K F H xs as
def MutR (K : PySem.W.Frag) (B : Bool) (r : V → List V → Hp → VK → Prop) (f : MF) : Prop :=
  ∀ (F H : Hp) (p : Addr) (us : List V) (ds : List D) (xs : List V) (as ds' : List D) (d : D) (Q : VK), Same F H → H p = some (.lst us) → DpAll K F us ds → ArgOk K F H xs as B → f ds as = some (ds', d) →
    (∀ us' v, DpAll K F us' ds' → Dp K F v d → Q v (upd H p (.lst us'))) → r (.ref p) xs H Q
def putM (i : Nat) (E : SEnv) (s : Option Slot) (as : List D) (f : MF) : Res Ret := match s with
  | some (.own (.lst ls)) => (match f ls as with
    | some (ls', d) => .ok (.val d) (E.set i (.own (.lst ls')))
    | none => .no)
  | some (.lnt (.lst ls)) => (match f ls as with
    | some (ls', d) => .ok (.val d) (E.set i (.lnt (.lst ls')))
    | none => .no)
  | _ => .no
def mMut (i : Nat) (f : MF) (as : M (List Ret)) : M Ret := fun E => (as E).bind fun rs E1 => match takes E1 rs with
  | some (ds, E2) => putM i E2 E2[i]? ds f
  | none => .no
def mMutB (i : Nat) (f : MF) (as : M (List Ret)) : M Ret := fun E => (as E).bind fun rs E1 => match dats E1 rs with
  | some ds => putM i E1 E1[i]? ds f
  | none => .no
section
variable {X : Cx} {cl : Cl} {W : WX} {e : Expr} {es : List Expr} {apos vpos cpos : Pos} {ms : M (List Ret)}
theorem put_run {K : PySem.W.Frag} {C : Ctx} {F : Hp} {ρ : Own} {T : List (V × Ret)} {σ : St} {H : Hp} {E : SEnv} {i : Nat} {v : V} {xs : List V} {as : List D} {f : MF} {B : Bool} {r : V → List V → Hp → VK → Prop} {Q : VK} (R : RelF K cl C F ρ E T σ H) (b : σ[i]? = some (some v))
    (hf : MutR K B r f) (ha : ArgOk K F H xs as B) (h : Run K cl W C T σ (fun r E' => ∀ v H', Rel K cl C E' (T ++ [(v, r)]) σ H' → Bor σ v r → Q v H') (putM i E E[i]? as f)) : r v xs H Q := by
  unfold putM at h
  split at h
  · rename_i ls e
    split at h
    · rename_i ls' d e2
      obtain ⟨p, z1, ⟨ho, z2, ⟨us, rfl, z3⟩, z4, z5⟩, z6⟩ := R.sl i _ _ b e
      cases z1
      exact hf F H p us ls xs as ls' d Q R.fh z2 z3 ha e2 fun us' v h1 h2 => h v _ ((R.mut_own e b (o' := .lst ls') ⟨us', rfl, h1⟩).push_val h2).rel trivial
    · exact h.elim
  · rename_i ls e
    split at h
    · rename_i ls' d e2
      obtain ⟨p, z1, ⟨ho, z2, ⟨us, rfl, z3⟩, z4, z5⟩, z6⟩ := R.sl i _ _ b e
      cases z1
      exact hf F H p us ls xs as ls' d Q R.fh z2 z3 ha e2 fun us' v h1 h2 => h v _ ((R.mut_lnt e b (o' := .lst ls') ⟨us', rfl, h1⟩).push_val h2).rel trivial
    · exact h.elim
  · exact h.elim
theorem lst_ty {K : PySem.W.Frag} {C : Ctx} {F : Hp} {ρ : Own} {T : List (V × Ret)} {σ : St} {H : Hp} {E : SEnv} {i : Nat} {v : V} (R : RelF K cl C F ρ E T σ H) (b : σ[i]? = some (some v)) (h : ∃ ls, E[i]? = some (.own (.lst ls)) ∨ E[i]? = some (.lnt (.lst ls))) : tyV K "list" v H := by
  obtain ⟨ls, h | h⟩ := h
  · obtain ⟨p, z1, ⟨ho, z2, ⟨us, rfl, z3⟩, z4, z5⟩, z6⟩ := R.sl i _ _ b h
    cases z1
    exact .inl ⟨rfl, us, SqL.of z2⟩
  · obtain ⟨p, z1, ⟨ho, z2, ⟨us, rfl, z3⟩, z4, z5⟩, z6⟩ := R.sl i _ _ b h
    cases z1
    exact .inl ⟨rfl, us, SqL.of z2⟩
/-- the slot holds a list when the method is looked up -/
def isLst (E : SEnv) (i : Nat) : Bool := match E[i]? with
  | some (.own (.lst _)) => true
  | some (.lnt (.lst _)) => true
  | _ => false
theorem isLst_at {E : SEnv} {i : Nat} (h : isLst E i = true) : ∃ ls, E[i]? = some (.own (.lst ls)) ∨ E[i]? = some (.lnt (.lst ls)) := by
  unfold isLst at h
  split at h
  · rename_i e; exact ⟨_, .inl e⟩
  · rename_i e; exact ⟨_, .inr e⟩
  · cases h
def guardL (i : Nat) (m : M Ret) : M Ret := fun E => if isLst E i = true then m E else .no
theorem den_mut (i : Nat) {x name : Str} {id : String} {r : V → List V → Hp → VK → Prop} {f : MF} (slot : PySem.Slot "list" name id) (hty : typeOf (.builtin id) = pure (.type "method_descriptor")) (hm : MtR X id r) (hf : MutR X.K true r f) (ha : PA X (e :: es) (tMA X.K cl W ms))
    (hN : X.N[i]? = some x := by rfl) (hv : Vis X.env.scope x := by first | exact Or.inl rfl | exact Or.inr (Or.inl rfl) | exact Or.inr (Or.inr rfl)) (hd : (x == ("__debug__" : Str)) = false := by decide) (hcd : (x == ("__classdict__" : Str)) = false := by decide)
    (pa : PlainAttrs "list" := by exact F.plainAttrs_list) (hbase : attributeBase (.Name x vpos) name X.env (eval (.Name x vpos) X.env) = eval (.Name x vpos) X.env := by rfl)
    (hfew : ((backTo cpos (starEach (e :: es) X.env)).all (fun x => !x.1) && (backToKw cpos (keywordEach [] X.env)).all (fun x => x.1.isSome)
      && decide ((e :: es).length + ([] : List Keyword).length + (if ([] : List Keyword).isEmpty then 0 else 1) < 30)) = true := by rfl)
    (hline : (apos.endLine == cpos.line) = true := by rfl) (hs : starEach (e :: es) X.env = (false, eval e X.env) :: starEach es X.env := by rfl) (hplain : (backTo cpos (starEach es X.env)).any (·.1) = false := by rfl) :
    PE X (.Call (.Attribute (.Name x vpos) name apos) (e :: es) [] cpos) (tM X.K cl W (guardL i (mMut i f ms))) := PE.imp (pe_bm pa slot hty hm (pe_var hN hv hd hcd) ha hbase hfew hline hs hplain) fun σ H Q h => by
  obtain ⟨C, E, T, R, h⟩ := h
  unfold guardL at h
  split at h
  case isFalse => exact h.elim
  rename_i hg
  obtain ⟨F, ρ, RF⟩ := _root_.id R
  obtain ⟨ls, hl⟩ := isLst_at hg
  obtain ⟨w, hw⟩ : ∃ w, σ[i]? = some w := by rcases hl with e | e <;> exact slot_there RF e
  obtain ⟨v, rfl⟩ : ∃ v, w = some v := by
    rcases hl with e | e
    · obtain ⟨p, q, _⟩ := RF.sl i _ _ hw e; exact ⟨_, q⟩
    · obtain ⟨p, q, _⟩ := RF.sl i _ _ hw e; exact ⟨_, q⟩
  refine ⟨v, hw, lst_ty RF hw ⟨ls, hl⟩, C, E, T, R, (Run.bind h).imp fun rs E1 h1 vs H1 R1 b1 => ?_⟩
  split at h1
  · rename_i ds E2 e2
    obtain ⟨F1, ρ1, RF1⟩ := R1
    obtain ⟨F2, f2, R2, d2⟩ := RF1.takes b1 e2
    exact put_run (B := true) R2 hw hf d2 h1
  · exact h1.elim
theorem den_mutB (i : Nat) {x name : Str} {id : String} {r : V → List V → Hp → VK → Prop} {f : MF} (slot : PySem.Slot "list" name id) (hty : typeOf (.builtin id) = pure (.type "method_descriptor")) (hm : MtR X id r) (hf : MutR X.K false r f) (ha : PA X (e :: es) (tMA X.K cl W ms))
    (hN : X.N[i]? = some x := by rfl) (hv : Vis X.env.scope x := by first | exact Or.inl rfl | exact Or.inr (Or.inl rfl) | exact Or.inr (Or.inr rfl)) (hd : (x == ("__debug__" : Str)) = false := by decide) (hcd : (x == ("__classdict__" : Str)) = false := by decide)
    (pa : PlainAttrs "list" := by exact F.plainAttrs_list) (hbase : attributeBase (.Name x vpos) name X.env (eval (.Name x vpos) X.env) = eval (.Name x vpos) X.env := by rfl)
    (hfew : ((backTo cpos (starEach (e :: es) X.env)).all (fun x => !x.1) && (backToKw cpos (keywordEach [] X.env)).all (fun x => x.1.isSome)
      && decide ((e :: es).length + ([] : List Keyword).length + (if ([] : List Keyword).isEmpty then 0 else 1) < 30)) = true := by rfl)
    (hline : (apos.endLine == cpos.line) = true := by rfl) (hs : starEach (e :: es) X.env = (false, eval e X.env) :: starEach es X.env := by rfl) (hplain : (backTo cpos (starEach es X.env)).any (·.1) = false := by rfl) :
    PE X (.Call (.Attribute (.Name x vpos) name apos) (e :: es) [] cpos) (tM X.K cl W (guardL i (mMutB i f ms))) := PE.imp (pe_bm pa slot hty hm (pe_var hN hv hd hcd) ha hbase hfew hline hs hplain) fun σ H Q h => by
  obtain ⟨C, E, T, R, h⟩ := h
  unfold guardL at h
  split at h
  case isFalse => exact h.elim
  rename_i hg
  obtain ⟨F, ρ, RF⟩ := _root_.id R
  obtain ⟨ls, hl⟩ := isLst_at hg
  obtain ⟨w, hw⟩ : ∃ w, σ[i]? = some w := by rcases hl with e | e <;> exact slot_there RF e
  obtain ⟨v, rfl⟩ : ∃ v, w = some v := by
    rcases hl with e | e
    · obtain ⟨p, q, _⟩ := RF.sl i _ _ hw e; exact ⟨_, q⟩
    · obtain ⟨p, q, _⟩ := RF.sl i _ _ hw e; exact ⟨_, q⟩
  refine ⟨v, hw, lst_ty RF hw ⟨ls, hl⟩, C, E, T, R, (Run.bind h).imp fun rs E1 h1 vs H1 R1 b1 => ?_⟩
  split at h1
  · rename_i ds e2
    obtain ⟨F1, ρ1, RF1⟩ := R1
    exact put_run (B := false) RF1.drop hw hf (RF1.dats rfl b1 e2) h1
  · exact h1.elim
theorem den_mut0 (i : Nat) {x name : Str} {id : String} {r : V → List V → Hp → VK → Prop} {f : MF} (slot : PySem.Slot "list" name id) (hty : typeOf (.builtin id) = pure (.type "method_descriptor")) (hm : MtR X id r) (hf : MutR X.K true r f)
    (hN : X.N[i]? = some x := by rfl) (hv : Vis X.env.scope x := by first | exact Or.inl rfl | exact Or.inr (Or.inl rfl) | exact Or.inr (Or.inr rfl)) (hd : (x == ("__debug__" : Str)) = false := by decide) (hcd : (x == ("__classdict__" : Str)) = false := by decide)
    (pa : PlainAttrs "list" := by exact F.plainAttrs_list) (hbase : attributeBase (.Name x vpos) name X.env (eval (.Name x vpos) X.env) = eval (.Name x vpos) X.env := by rfl) (hline : (apos.endLine == cpos.line) = true := by rfl) :
    PE X (.Call (.Attribute (.Name x vpos) name apos) [] [] cpos) (tM X.K cl W (guardL i (mMut i f mA0))) := PE.imp (pe_bm0 pa slot hty hm (pe_var hN hv hd hcd) hbase hline) fun σ H Q h => by
  obtain ⟨C, E, T, R, h⟩ := h
  unfold guardL at h
  split at h
  case isFalse => exact h.elim
  rename_i hg
  obtain ⟨F, ρ, RF⟩ := _root_.id R
  obtain ⟨ls, hl⟩ := isLst_at hg
  obtain ⟨w, hw⟩ : ∃ w, σ[i]? = some w := by rcases hl with e | e <;> exact slot_there RF e
  obtain ⟨v, rfl⟩ : ∃ v, w = some v := by
    rcases hl with e | e
    · obtain ⟨p, q, _⟩ := RF.sl i _ _ hw e; exact ⟨_, q⟩
    · obtain ⟨p, q, _⟩ := RF.sl i _ _ hw e; exact ⟨_, q⟩
  exact ⟨v, hw, lst_ty RF hw ⟨ls, hl⟩, put_run (B := true) RF hw hf .nil h⟩
end

/-! ### the methods -/
noncomputable def appF : MF := fun ds as => match as with
  | [d] => if Ok (ds.length < big) then some (ds ++ [d], .none) else none
  | _ => none
noncomputable def insF : MF := fun ds as => match as with
  | [.int i, d] => if Ok (ds.length < big ∧ 0 ≤ i ∧ i < 2 ^ 63) then some (ds.take i.toNat ++ [d] ++ ds.drop i.toNat, .none) else none
  | _ => none
def popF : MF := fun ds as => match as with
  | [] => (match ds[ds.length - 1]? with
    | some d => some (ds.dropLast, d)
    | none => none)
  | _ => none
noncomputable def popAtF : MF := fun ds as => match as with
  | [.int i] => if Ok (-(2 ^ 63) ≤ i ∧ i < 2 ^ 63) then (match seqIndex? i ds.length with
    | some k => (match ds[k]? with
      | some d => some (ds.eraseIdx k, d)
      | none => none)
    | none => none) else none
  | _ => none
def revF : MF := fun ds as => match as with
  | [] => some (ds.reverse, .none)
  | _ => none
noncomputable def extF : MF := fun ds as => match as with
  | [.list es] => if Ok (ds.length + es.length ≤ big) then some (ds ++ es, .none) else none
  | [.tuple es] => if Ok (ds.length + es.length ≤ big) then some (ds ++ es, .none) else none
  | _ => none
/-- the place of the first one -/
def placeI (k : Int) : List Int → Option Nat
  | [] => none
  | n :: ns => if n = k then some 0 else (placeI k ns).map (· + 1)
theorem placeI_spec {k : Int} : ∀ {ns : List Int} {j : Nat}, placeI k ns = some j → ns[j]? = some k ∧ ∀ m : Nat, m < j → ns[m]? ≠ some k
  | [], j, h => by cases h
  | n :: ns, j, h => by
    unfold placeI at h
    split at h
    · rename_i e; cases h; exact ⟨by simp [e], fun m hm => absurd hm (Nat.not_lt_zero _)⟩
    · rename_i e
      obtain ⟨j', h1, rfl⟩ := Option.map_eq_some_iff.mp h
      obtain ⟨h2, h3⟩ := placeI_spec h1
      refine ⟨by simpa using h2, fun m hm => ?_⟩
      cases m with
      | zero => simpa using e
      | succ m => simpa using h3 m (by omega)
def remF : MF := fun ds as => match as with
  | [.int k] => (match intsOf ds with
    | some ns => (match placeI k ns with
      | some j => some ((ns.eraseIdx j).map PyData.int, .none)
      | none => none)
    | none => none)
  | _ => none
section
variable {K : PySem.W.Frag}
theorem dps1 {F : Hp} {vs : List V} {d : D} (h : DpAll K F vs [d]) : ∃ v, vs = [v] ∧ Dp K F v d := by
  cases h with
  | cons a b => cases b; exact ⟨_, rfl, a⟩
theorem dps2 {F : Hp} {vs : List V} {d e : D} (h : DpAll K F vs [d, e]) : ∃ v w, vs = [v, w] ∧ Dp K F v d ∧ Dp K F w e := by
  cases h with
  | cons a b =>
    cases b with
    | cons a' b' => cases b'; exact ⟨_, _, rfl, a, a'⟩
theorem dps0 {F : Hp} {vs : List V} (h : DpAll K F vs []) : vs = [] := by cases h; rfl
theorem dp_int {F : Hp} {v : V} {i : Int} (h : Dp K F v (.int i)) : v = .int i := by cases h; rfl
theorem app_ok : MutR K true rAppend appF := fun F H p us ds xs as ds' d Q hs hp hd ha e q => by
  unfold appF at e
  split at e
  · split at e
    · rename_i hl
      cases e
      obtain ⟨v, rfl, hv⟩ := dps1 ha
      exact ⟨p, us, v, rfl, rfl, hp, by rw [dps_len hd]; exact big_lt (Nat.le_of_lt hl), q _ _ (dps_app hd (.cons hv .nil)) .non⟩
    · cases e
  · cases e
theorem ins_ok : MutR K true (fun x vs H Q => ∃ (l : Addr) (xs : List V) (i : Int) (y : V), x = .ref l ∧ vs = [.int i, y] ∧ H l = some (.lst xs) ∧ xs.length < sizeLine ∧ 0 ≤ i ∧ i < 2 ^ 63 ∧
    Q .non (upd H l (.lst (xs.take i.toNat ++ [y] ++ xs.drop i.toNat)))) insF := fun F H p us ds xs as ds' d Q hs hp hd ha e q => by
  unfold insF at e
  split at e
  · split at e
    · rename_i hl
      cases e
      obtain ⟨v, w, rfl, hv, hw⟩ := dps2 ha
      rw [dp_int hv]
      exact ⟨p, us, _, w, rfl, rfl, hp, by rw [dps_len hd]; exact big_lt (Nat.le_of_lt hl.1), hl.2.1, hl.2.2, q _ _ (dps_app (dps_app (dps_take _ hd) (.cons hw .nil)) (dps_drop _ hd)) .non⟩
    · cases e
  · cases e
theorem dps_dropLast {F : Hp} : ∀ {vs : List V} {ds : List D}, DpAll K F vs ds → DpAll K F vs.dropLast ds.dropLast
  | _, _, .nil => .nil
  | _, _, .cons h .nil => .nil
  | _, _, .cons h (.cons h2 hs) => .cons h (dps_dropLast (.cons h2 hs))
theorem pop_ok : MutR K true rPop popF := fun F H p us ds xs as ds' d Q hs hp hd ha e q => by
  unfold popF at e
  split at e
  · split at e
    · rename_i y ey
      cases e
      obtain ⟨v, h1, h2⟩ := dps_get hd ey
      exact ⟨p, us, v, rfl, dps0 ha, hp, by rw [dps_len hd]; exact h1, q _ _ (dps_dropLast hd) h2⟩
    · cases e
  · cases e
theorem popAt_ok : MutR K true rPopAt popAtF := fun F H p us ds xs as ds' d Q hs hp hd ha e q => by
  unfold popAtF at e
  split at e
  · split at e
    · rename_i hl
      split at e
      · rename_i k ek
        split at e
        · rename_i y ey
          cases e
          obtain ⟨v, h1, h2⟩ := dps_get hd ey
          obtain ⟨w, rfl, hw⟩ := dps1 ha
          rw [dp_int hw]
          exact ⟨p, us, _, k, v, rfl, rfl, hp, hl.1, hl.2, by rw [dps_len hd]; exact ek, h1, q _ _ (dps_erase _ hd) h2⟩
        · cases e
      · cases e
    · cases e
  · cases e
theorem rev_ok : MutR K true rReverse revF := fun F H p us ds xs as ds' d Q hs hp hd ha e q => by
  unfold revF at e
  split at e
  · cases e
    exact ⟨p, us, rfl, dps0 ha, hp, q _ _ (dps_rev hd) .non⟩
  · cases e
theorem rem_ok : MutR K true rRemI remF := fun F H p us ds xs as ds' d Q hs hp hd ha e q => by
  unfold remF at e
  split at e
  · split at e
    · rename_i ns en
      split at e
      · rename_i j ej
        cases e
        obtain ⟨w, rfl, hw⟩ := dps1 ha
        rw [dp_int hw]
        rw [intsOf_eq en] at hd
        rw [dps_ints hd] at hp
        obtain ⟨h1, h2⟩ := placeI_spec ej
        exact ⟨p, ns, _, j, rfl, rfl, hp, h1, h2, q _ _ (dps_of_ints _) .non⟩
      · cases e
    · cases e
  · cases e
end
/-- extend by a list or a tuple, any that is read -/
theorem list_extendG (l b : Addr) (items items2 : Array Value) (n n2 : Nat) (dd2 : Option Addr) (sl2 : Array (Option Value)) (hc0 : ¬(!items.isEmpty && Builtin.List.listTooLong (items.size + items2.size)) = true) (hc1 : items.size ≤ sizeLine) (hs2 : items.size + items2.size ≤ sizeLine + 1) :
    Meets (Builtin.«list.extend» ⟨[.ref l, .ref b], []⟩) (fun _ R s => s.heap.get? l = some { cls := .type "list", dict := none, data := .seq items n, slots := #[] } ∧ s.heap.get? b = some { cls := .type "list", dict := dd2, data := .seq items2 n2, slots := sl2 } ∧ R (.ok (.ret Value.none)) { s with heap := s.heap.update l (Obj.mapSeq fun x => x ++ items2), toks := s.toks }) :=
  .of_wp fun prog w A R s h => by
    obtain ⟨hp, g, d, tk, os⟩ := s; obtain ⟨hl, hb, h⟩ := h; have f1 := AutoSeq1.idx_int; have f2 := AutoSeq1.sub_tuple_tuple; have f3 := AutoSeq1.sub_list_list; have f4 := AutoSeq1.sub_tuple_list; have f5 := AutoSeq1.sub_list_tuple
    have hz' : (items ++ items2).size ≤ sizeLine + 1 := by rw [Array.size_append]; exact hs2
    wp_walk using (wpAny_updateSeq hl rfl (hz := hc1) (_hz' := hz')), AutoSeq1.wpAny_loadPart' hl, AutoSeq1.wpAny_loadPart' hb
    exact ⟨_, rfl, h⟩
theorem list_extendT (l b : Addr) (items items2 : Array Value) (n n2 : Nat) (dd2 : Option Addr) (sl2 : Array (Option Value)) (hc0 : ¬(!items.isEmpty && Builtin.List.listTooLong (items.size + items2.size)) = true) (hc1 : items.size ≤ sizeLine) (hs2 : items.size + items2.size ≤ sizeLine + 1) :
    Meets (Builtin.«list.extend» ⟨[.ref l, .ref b], []⟩) (fun _ R s => s.heap.get? l = some { cls := .type "list", dict := none, data := .seq items n, slots := #[] } ∧ s.heap.get? b = some { cls := .type "tuple", dict := dd2, data := .seq items2 n2, slots := sl2 } ∧ R (.ok (.ret Value.none)) { s with heap := s.heap.update l (Obj.mapSeq fun x => x ++ items2), toks := s.toks }) :=
  .of_wp fun prog w A R s h => by
    obtain ⟨hp, g, d, tk, os⟩ := s; obtain ⟨hl, hb, h⟩ := h; have f1 := AutoSeq1.idx_int; have f2 := AutoSeq1.sub_tuple_tuple; have f3 := AutoSeq1.sub_list_list; have f4 := AutoSeq1.sub_tuple_list; have f5 := AutoSeq1.sub_list_tuple
    have hz' : (items ++ items2).size ≤ sizeLine + 1 := by rw [Array.size_append]; exact hs2
    wp_walk using (wpAny_updateSeq hl rfl (hz := hc1) (_hz' := hz')), AutoSeq1.wpAny_loadPart' hl, AutoSeq1.wpAny_loadPart' hb
    exact ⟨_, rfl, h⟩
def rExtA (K : PySem.W.Frag) : V → List V → Hp → VK → Prop := fun x vs H Q => ∃ l b xs zs, x = .ref l ∧ vs = [.ref b] ∧ H l = some (.lst xs) ∧ (SqL K H b zs ∨ SqT K H b zs) ∧ xs.length + zs.length ≤ sizeLine ∧ Q .non (upd H l (.lst (xs ++ zs)))
theorem mt_extA {X : Cx} : MtR X "list.extend" (rExtA X.K) := by
  intro pins s σ H x vs v us Q I rx rv h
  obtain ⟨l, b, xs, zs, rfl, rfl, hH, hB, hz, q⟩ := h
  cases rx
  obtain ⟨u, rfl, ru⟩ := rv.one
  cases ru
  obtain ⟨z, its, n, r, hl, e⟩ := I.lstM hH
  have fin : ∀ (its2 : List Value), Vals zs its2 → its.toArray.size + its2.toArray.size ≤ sizeLine ∧ ¬ (!its.toArray.isEmpty && Builtin.List.listTooLong (its.toArray.size + its2.toArray.size)) = true ∧ EP X pins σ Q Value.none { s with heap := s.heap.update l (Obj.mapSeq fun x => x ++ its2.toArray), toks := s.toks } := fun its2 r2 => by
    have hl2 := r2.length
    have hsz : its.toArray.size + its2.toArray.size ≤ sizeLine := by rw [List.size_toArray, List.size_toArray]; omega
    refine ⟨hsz, ?_, .non, _, I.lset (its' := its ++ its2) hH e (by simp) (r.append r2) ?_, rfl, q⟩
    · rw [notLongL hsz, Bool.and_false]
      exact Bool.false_ne_true
    · rw [List.length_append]; omega
  rcases hB with hB | hB
  · obtain ⟨its2, r2, ⟨⟨c2, d2, da2, sl2⟩, n2, e2, k1, k2, k3⟩, z2⟩ := I.list hB
    simp only at k1 k2 k3
    subst k1 k2 k3
    obtain ⟨hsz, hlong, fin⟩ := fin its2 r2
    exact call_meets F.slot_list_extend ⟨_, e, rfl⟩ F.entry_list_extend (F.args_list_extend_2 _ _) (list_extendG l b its.toArray its2.toArray n n2 none sl2 hlong (by rw [List.size_toArray]; omega) (by omega)) ⟨e, e2, fin⟩
  · obtain ⟨its2, r2, ⟨⟨c2, d2, da2, sl2⟩, e2, k1, n2, k2⟩, z2⟩ := I.tuple hB
    simp only at k1 k2
    subst k1 k2
    obtain ⟨hsz, hlong, fin⟩ := fin its2 r2
    exact call_meets F.slot_list_extend ⟨_, e, rfl⟩ F.entry_list_extend (F.args_list_extend_2 _ _) (list_extendT l b its.toArray its2.toArray n n2 d2 sl2 hlong (by rw [List.size_toArray]; omega) (by omega)) ⟨e, e2, fin⟩
theorem ext_ok {K : PySem.W.Frag} : MutR K false (rExtA K) extF := fun F H p us ds xs as ds' d Q hs hp hd ha e q => by
  unfold extF at e
  split at e
  · split at e
    · rename_i hl
      cases e
      obtain ⟨v, rfl, hv⟩ := dpts1 ha
      obtain ⟨a, ws, rfl, h1, h2⟩ := dpt_lst hs hv
      exact ⟨p, a, us, ws, rfl, rfl, hp, .inl h1, by rw [dps_len hd, dps_len h2]; exact big_le hl, q _ _ (dps_app hd h2) .non⟩
    · cases e
  · split at e
    · rename_i hl
      cases e
      obtain ⟨v, rfl, hv⟩ := dpts1 ha
      obtain ⟨a, ws, rfl, h1, h2⟩ := dpt_tup hs hv
      exact ⟨p, a, us, ws, rfl, rfl, hp, .inr h1, by rw [dps_len hd, dps_len h2]; exact big_le hl, q _ _ (dps_app hd h2) .non⟩
    · cases e
  · cases e
end MP

namespace MP
open PySem PySem.Spec L2

/-! ### dicts of one's own: keys that are numbers or texts -/
section
variable {κ : Type} [DecidableEq κ]
def valD (kds : List (κ × D)) (k : κ) : Option D := (kds.find? fun p => decide (p.1 = k)).map (·.2)
def putD (kds : List (κ × D)) (k : κ) (d : D) : List (κ × D) :=
  if (kds.any fun p => decide (p.1 = k)) = true then kds.map (fun p => if p.1 = k then (p.1, d) else p) else kds ++ [(k, d)]
variable {K : PySem.W.Frag} {F : Hp}
abbrev PrK (K : PySem.W.Frag) (F : Hp) (kvs : List (κ × V)) (kds : List (κ × D)) : Prop := Paired (fun (p : κ × V) (q : κ × D) => p.1 = q.1 ∧ Dp K F p.2 q.2) kvs kds
theorem prk_len : ∀ {kvs : List (κ × V)} {kds : List (κ × D)}, PrK K F kvs kds → kvs.length = kds.length
  | _, _, .nil => rfl
  | _, _, .cons _ t => congrArg (· + 1) (prk_len t)
theorem prk_val {k : κ} : ∀ {kvs : List (κ × V)} {kds : List (κ × D)}, PrK K F kvs kds → (valV kvs k = none ∧ valD kds k = none) ∨ ∃ v d, valV kvs k = some v ∧ valD kds k = some d ∧ Dp K F v d
  | _, _, .nil => .inl ⟨rfl, rfl⟩
  | p :: kvs, q :: kds, .cons h t => by
    by_cases e : p.1 = k
    · have e' : q.1 = k := h.1 ▸ e
      exact .inr ⟨p.2, q.2, by simp [valV, List.find?_cons, e], by simp [valD, List.find?_cons, e'], h.2⟩
    · have e' : ¬ q.1 = k := h.1 ▸ e
      have := prk_val (k := k) t
      have e1 : valV (p :: kvs) k = valV kvs k := by simp [valV, List.find?_cons, e]
      have e2 : valD (q :: kds) k = valD kds k := by simp [valD, List.find?_cons, e']
      rw [e1, e2]; exact this
theorem prk_any {k : κ} : ∀ {kvs : List (κ × V)} {kds : List (κ × D)}, PrK K F kvs kds → (kvs.any fun p => decide (p.1 = k)) = (kds.any fun p => decide (p.1 = k))
  | _, _, .nil => rfl
  | p :: kvs, q :: kds, .cons h t => by rw [List.any_cons, List.any_cons, prk_any t, h.1]
theorem prk_map {k : κ} {v : V} {d : D} (hd : Dp K F v d) : ∀ {kvs : List (κ × V)} {kds : List (κ × D)}, PrK K F kvs kds → PrK K F (kvs.map fun p => if p.1 = k then (p.1, v) else p) (kds.map fun p => if p.1 = k then (p.1, d) else p)
  | _, _, .nil => .nil
  | p :: kvs, q :: kds, .cons h t => by
    refine .cons ?_ (prk_map hd t)
    by_cases e : p.1 = k
    · have e' : q.1 = k := h.1 ▸ e
      dsimp only; rw [if_pos e, if_pos e']; exact ⟨h.1, hd⟩
    · have e' : ¬ q.1 = k := h.1 ▸ e
      dsimp only; rw [if_neg e, if_neg e']; exact h
theorem prk_app : ∀ {kvs kvs' : List (κ × V)} {kds kds' : List (κ × D)}, PrK K F kvs kds → PrK K F kvs' kds' → PrK K F (kvs ++ kvs') (kds ++ kds')
  | _, _, _, _, .nil, s => s
  | _, _, _, _, .cons h t, s => .cons h (prk_app t s)
theorem prk_put {k : κ} {v : V} {d : D} (hd : Dp K F v d) {kvs : List (κ × V)} {kds : List (κ × D)} (h : PrK K F kvs kds) : PrK K F (putK kvs k v) (putD kds k d) := by
  unfold putK putD
  rw [prk_any h]
  split
  · exact prk_map hd h
  · exact prk_app h (.cons ⟨rfl, hd⟩ .nil)
end
def keyD : D → Option Key
  | .int i => some (.inl i)
  | .str s => some (.inr s)
  | _ => none
theorem key_dpt {K : PySem.W.Frag} {F H : Hp} {v : V} {d : D} {k : Key} (h : DpT K F H v d) (e : keyD d = some k) : v = kV k := by
  unfold keyD at e
  split at e
  · cases e; exact dpt_int h
  · cases e; exact dpt_str h
  · cases e
def dinE (neg : Bool) (s : Option Slot) (d : Option D) : Option Rv := match s, d with
  | some (.own (.dic kds)), some d => (match keyD d with
    | some k => some (.val (.bool (if neg then !(valD kds k).isSome else (valD kds k).isSome)))
    | none => none)
  | _, _ => none
def retO (o : Option Rv) (E : SEnv) : Res Ret := match o with
  | some rv => .ok rv.ret E
  | none => .no
/-- key in d, key not in d -/
def mDin (neg : Bool) (i : Nat) (mk : M Ret) : M Ret := fun E => (mk E).bind fun r E1 => retO (dinE neg E1[i]? (dat E1 r)) E1
section
variable {K : PySem.W.Frag} {cl : Cl} {W : WX} {C : Ctx} {T T' : List (V × Ret)} {σ : St} {H : Hp} {E : SEnv}
theorem retO_run {P : Ret → SEnv → Prop} {o : Option Rv} (h : Run K cl W C T σ P (retO o E)) : ∃ rv, o = some rv ∧ P rv.ret E := by
  cases o with
  | some rv => exact ⟨rv, rfl, h⟩
  | none => exact h.elim
end
section
variable {X : Cx} {cl : Cl} {W : WX} {e o : Expr} {pos vpos : Pos} {mk mv : M Ret}
theorem din_of (i : Nat) (neg : Bool) (σ : St) (H : Hp) (Q : VK) (h : tM X.K cl W (mDin neg i mk) σ H Q) : (if neg then tDNotIn (tM X.K cl W mk) (tVar i) σ H Q else tDIn (tM X.K cl W mk) (tVar i) σ H Q) := by
  obtain ⟨C, E, T, R, h⟩ := h
  have key : tM X.K cl W mk σ H fun y H1 => tVar i σ H1 fun x H2 => ∃ a o, x = .ref a ∧ DGet H2 a y o ∧ Q (.bl (if neg then !o.isSome else o.isSome)) H2 := by
    refine ⟨C, E, T, R, (Run.bind h).imp fun r E1 h1 v1 H1 R1 b1 => ?_⟩
    obtain ⟨rv, e1, p⟩ := retO_run h1
    unfold dinE at e1
    split at e1
    · rename_i kds d es ed
      split at e1
      · rename_i k ek
        cases e1
        obtain ⟨F, ρ, RF⟩ := R1
        obtain ⟨w, hw⟩ := slot_there RF es
        obtain ⟨q, rfl, ⟨ho, z2, ⟨kvs, rfl, z3⟩, z4, z5⟩, z6⟩ := RF.sl i _ _ hw es
        have hk := key_dpt (RF.dat (k := T.length) (by simp) b1 ed) ek
        subst hk
        refine ⟨.ref q, hw, q, _, rfl, DGet.k z2, ?_⟩
        have hv : (valV kvs k).isSome = (valD kds k).isSome := by
          rcases prk_val (k := k) z3 with ⟨h1, h2⟩ | ⟨v, d, h1, h2, _⟩
          · rw [h1, h2]; rfl
          · rw [h1, h2]; rfl
        rw [hv]
        exact (gives (T' := [(kV k, r)]) RF p).bool
      · cases e1
    · cases e1
  cases neg with
  | true => exact key
  | false => exact key
theorem den_din (i : Nat) {x : Str} (hu : X.A.units + 1 < cLine) (hk : PE X e (tM X.K cl W mk)) (hN : X.N[i]? = some x := by rfl) (hv : Vis X.env.scope x := by first | exact Or.inl rfl | exact Or.inr (Or.inl rfl) | exact Or.inr (Or.inr rfl)) (hd : (x == ("__debug__" : Str)) = false := by decide) (hcd : (x == ("__classdict__" : Str)) = false := by decide) :
    PE X (.Compare e [.In] [.Name x vpos] pos) (tM X.K cl W (mDin false i mk)) := PE.imp (pe_cmp (pc_din hu hk (pe_var hN hv hd hcd)) rfl) fun σ H Q h => din_of i false σ H Q h
theorem den_dnin (i : Nat) {x : Str} (hu : X.A.units + 1 < cLine) (hk : PE X e (tM X.K cl W mk)) (hN : X.N[i]? = some x := by rfl) (hv : Vis X.env.scope x := by first | exact Or.inl rfl | exact Or.inr (Or.inl rfl) | exact Or.inr (Or.inr rfl)) (hd : (x == ("__debug__" : Str)) = false := by decide) (hcd : (x == ("__classdict__" : Str)) = false := by decide) :
    PE X (.Compare e [.NotIn] [.Name x vpos] pos) (tM X.K cl W (mDin true i mk)) := PE.imp (pe_cmp (pc_dnotin hu hk (pe_var hN hv hd hcd)) rfl) fun σ H Q h => din_of i true σ H Q h
/-- a comparison by its value, as a test -/
theorem pt_ofC {op : CmpOp} {a b : Expr} {t : TE} {m : M Ret} (h : PC X op a b t) (i : ∀ σ H Q, tM X.K cl W m σ H Q → t σ H Q) (h1 : behindInMarks op b = false) : PT X (.Compare a [op] [b] pos) (tMT X.K cl W (mBl m)) := PT.imp (pt_cmp h h1) fun σ H Q hh => by
  obtain ⟨C, E, T, R, hh⟩ := hh
  have h2 := bl_run hh
  exact i σ H _ ⟨C, E, T, R, h2.imp fun r1 E1 ⟨k, e1, h1⟩ v1 H1 R1 b1 => ⟨k, dat_bl R1 b1 e1, h1 H1 R1.drop⟩⟩
theorem den_dint (i : Nat) {x : Str} (hu : X.A.units + 1 < cLine) (hk : PE X e (tM X.K cl W mk)) (hN : X.N[i]? = some x := by rfl) (hv : Vis X.env.scope x := by first | exact Or.inl rfl | exact Or.inr (Or.inl rfl) | exact Or.inr (Or.inr rfl)) (hd : (x == ("__debug__" : Str)) = false := by decide) (hcd : (x == ("__classdict__" : Str)) = false := by decide) :
    PT X (.Compare e [.In] [.Name x vpos] pos) (tMT X.K cl W (mBl (mDin false i mk))) := pt_ofC (pc_din hu hk (pe_var hN hv hd hcd)) (fun σ H Q h => din_of i false σ H Q h) rfl
theorem den_dnint (i : Nat) {x : Str} (hu : X.A.units + 1 < cLine) (hk : PE X e (tM X.K cl W mk)) (hN : X.N[i]? = some x := by rfl) (hv : Vis X.env.scope x := by first | exact Or.inl rfl | exact Or.inr (Or.inl rfl) | exact Or.inr (Or.inr rfl)) (hd : (x == ("__debug__" : Str)) = false := by decide) (hcd : (x == ("__classdict__" : Str)) = false := by decide) :
    PT X (.Compare e [.NotIn] [.Name x vpos] pos) (tMT X.K cl W (mBl (mDin true i mk))) := pt_ofC (pc_dnotin hu hk (pe_var hN hv hd hcd)) (fun σ H Q h => din_of i true σ H Q h) rfl
end
def isDic (s : Option Slot) : Bool := match s with
  | some (.own (.dic _)) => true
  | _ => false
theorem isDic_at {s : Option Slot} (h : isDic s = true) : ∃ kds, s = some (.own (.dic kds)) := by
  unfold isDic at h
  split at h
  · exact ⟨_, rfl⟩
  · cases h
/-- d[key] -/
def dgetE (s : Option Slot) (d : Option D) : Option Rv := match s, d with
  | some (.own (.dic kds)), some d => (match keyD d with
    | some k => (valD kds k).map Rv.val
    | none => none)
  | _, _ => none
def mDget (i : Nat) (mk : M Ret) : M Ret := fun E => if isDic E[i]? = true then (mk E).bind fun r E1 => retO (dgetE E1[i]? (dat E1 r)) E1 else .no
noncomputable def dputE (i : Nat) (rk rv : Ret) (E : SEnv) : Option SEnv := match dat E rk, take E rv with
  | some d, some (y, E1) => (match keyD d, E1[i]? with
    | some k, some (.own (.dic kds)) => if Ok (kds.length < big) then some (E1.set i (.own (.dic (putD kds k y)))) else none
    | _, _ => none)
  | _, _ => none
/-- d[key] = value -/
noncomputable def mDput (i : Nat) (mk mv : M Ret) : M Fl := fun E => (mv E).bind fun rv E1 => if isDic E1[i]? = true then (mk E1).bind fun rk E2 => (match dputE i rk rv E2 with
  | some E3 => .ok .nx E3
  | none => .no) else .no
section
variable {X : Cx} {cl : Cl} {W : WX} {e v : Expr} {pos vpos spos : Pos} {mk mv : M Ret}
theorem den_dget (i : Nat) {x : Str} (hu : X.A.units + 1 < cLine) (hk : PE X e (tM X.K cl W mk)) (hs : NoSl e := by first | exact fun _ _ => rfl | rfl | trivial) (hN : X.N[i]? = some x := by rfl) (hv : Vis X.env.scope x := by first | exact Or.inl rfl | exact Or.inr (Or.inl rfl) | exact Or.inr (Or.inr rfl)) (hd : (x == ("__debug__" : Str)) = false := by decide) (hcd : (x == ("__classdict__" : Str)) = false := by decide) :
    PE X (.Subscript (.Name x vpos) e pos) (tM X.K cl W (mDget i mk)) := PE.imp (pe_dget hu (pe_var hN hv hd hcd) hk hs) fun σ H Q h => by
  obtain ⟨C, E, T, R, h⟩ := h
  unfold mDget at h
  split at h
  case isFalse => exact h.elim
  rename_i hg
  obtain ⟨kds0, e0⟩ := isDic_at hg
  obtain ⟨F0, ρ0, RF0⟩ := _root_.id R
  obtain ⟨w, hw⟩ := slot_there RF0 e0
  obtain ⟨q, rfl, _⟩ := RF0.sl i _ _ hw e0
  refine ⟨.ref q, hw, C, E, T, R, (Run.bind h).imp fun r E1 h1 v1 H1 R1 b1 => ?_⟩
  obtain ⟨rv, e1, p⟩ := retO_run h1
  unfold dgetE at e1
  split at e1
  · rename_i kds d es ed
    split at e1
    · rename_i k ek
      obtain ⟨y, ey, rfl⟩ := Option.map_eq_some_iff.mp e1
      obtain ⟨F, ρ, RF⟩ := R1
      obtain ⟨q', eq', ⟨ho, z2, ⟨kvs, rfl, z3⟩, z4, z5⟩, z6⟩ := RF.sl i _ _ hw es
      cases eq'
      have hk := key_dpt (RF.dat (k := T.length) (by simp) b1 ed) ek
      subst hk
      rcases prk_val (k := k) z3 with ⟨g1, g2⟩ | ⟨v, d', g1, g2, g3⟩
      · rw [g2] at ey; cases ey
      · rw [g2] at ey; cases ey
        exact ⟨q, v, rfl, by rw [← g1]; exact DGet.k z2, (gives (T' := [(kV k, r)]) RF p).1 v g3⟩
    · cases e1
  · cases e1
theorem den_dput (i : Nat) {x : Str} (hu : X.A.units + 1 < cLine) (hk : PE X e (tM X.K cl W mk)) (hval : PE X v (tM X.K cl W mv)) (hsw : swapsWith v (some (.Subscript (.Name x vpos) e spos)) pos.line X.env = pure false := by rfl)
    (hN : X.N[i]? = some x := by rfl) (hv : Vis X.env.scope x := by first | exact Or.inl rfl | exact Or.inr (Or.inl rfl) | exact Or.inr (Or.inr rfl)) (hd : (x == ("__debug__" : Str)) = false := by decide) (hcd : (x == ("__classdict__" : Str)) = false := by decide) :
    PS X (.Assign [.Subscript (.Name x vpos) e spos] v pos) (tMS X.K cl W (mDput i mk mv)) := PS.imp (ps_dput hu (pe_var hN hv hd hcd) hk hval hsw) fun D σ H h => by
  obtain ⟨C, E, T, R, h⟩ := h
  refine ⟨C, E, T, R, (RunS.bind h).run fun rv E1 h1 v1 H1 R1 b1 => ?_⟩
  split at h1
  case isFalse => exact h1.elim
  rename_i hg
  obtain ⟨kds0, e0⟩ := isDic_at hg
  obtain ⟨F0, ρ0, RF0⟩ := _root_.id R1
  obtain ⟨w, hw⟩ := slot_there RF0 e0
  obtain ⟨q, rfl, _⟩ := RF0.sl i _ _ hw e0
  refine ⟨.ref q, hw, C, E1, _, R1, ((RunS.bind h1).run (σ := σ) fun rk E2 h2 => h2).go fun rk E2 h2 v2 H2 R2 b2 => ?_⟩
  split at h2
  case h_2 => exact h2.elim
  rename_i E3 e3
  unfold dputE at e3
  split at e3
  case h_2 => cases e3
  rename_i d y E4 ed et
  split at e3
  case h_2 => cases e3
  rename_i k kds ek es
  split at e3
  case isFalse => cases e3
  rename_i hl
  cases e3
  obtain ⟨F, ρ, RF⟩ := R2
  have hk := key_dpt (RF.dat (k := T.length + 1) (v := v2) (r := rk) (by simp) b2 ed) ek
  subst hk
  obtain ⟨F', f', RT, hd⟩ := RelF.take (T := T) (T2 := [(kV k, rk)]) (by simpa using RF) b1 et
  obtain ⟨q', eq', ⟨ho, z2, ⟨kvs, rfl, z3⟩, z4, z5⟩, z6⟩ := RT.sl i _ _ hw es
  cases eq'
  refine ⟨q, _, rfl, DPut.k z2 (by rw [prk_len z3]; exact big_lt (Nat.le_of_lt hl)), ?_⟩
  exact h2 σ _ (RT.drop.mut_own es hw (o' := .dic (putD kds k y)) ⟨_, rfl, prk_put hd z3⟩).rel
end
end MP

namespace MP
open PySem PySem.Spec L2

/-! ### what is never reached -/
theorem den_never {X : Cx} {cl : Cl} {W : WX} {st : Stmt} : PS X st (tMS X.K cl W mNever) := ⟨fun pins s σ H D I h => by
  obtain ⟨C, E, T, R, h⟩ := h
  exact h.elim⟩
/-- where nothing may be let out -/
theorem takes0 {X : Cx} : Takes X W0 := fun u s' ⟨a, B, sI, pins, σ, H, cls, d, e, I, nb, up, sky, na, os, ag, w⟩ => False.elim w

/-! ### the law's own end -/
def cl0 : Cl := ⟨fun _ => (0 : Nat), [], none⟩
theorem sql_noT {K : PySem.W.Frag} {T : List (Addr × Str)} {H : Hp} {a : Addr} {xs : List V} (t : LamX.Tabs T H) (h : SqL K H a xs) : SqL K (noT T H) a xs := by
  rcases h with (h | ⟨o, h⟩) | h
  · exact .inl (.inl ((noT_at (noT_no t h fun _ z => by cases z)).trans h))
  · exact .inl (.inr ⟨o, (noT_at (noT_no t h fun _ z => by cases z)).trans h⟩)
  · exact .inr h
theorem tok_noT {T : List (Addr × Str)} {H : Hp} (t : LamX.Tabs T H) : TOk T (noT T H) H := ⟨t, fun p hp => if_pos hp⟩
theorem tabs_nil {H : Hp} : LamX.Tabs [] H := fun _ h => nomatch h
theorem end_sp {K : PySem.W.Frag} {cl : Cl} {g : List D → FR} {H : Hp} {a : Addr} {ns : List Int} {Ex : XK} (t : LamX.Tabs cl.T H) (h : SqL K H a (ns.map V.int)) (hg : g [.list (ns.map PyData.int)] = .ok (.val (.bool true))) :
    spM K cl g [.ref a] H (fun v _ => v = .bl true) Ex := by
  refine ⟨noT cl.T H, [.list (ns.map PyData.int)], tok_noT t, noT_sub, .cons (.lst (sql_noT t h) (dps_of_ints ns)) .nil, ?_⟩
  rw [hg]
  intro v H' F' h1 h2 h3 h4 hv
  cases (show Dp K F' v (.bool true) from hv)
  rfl
theorem end_cx {P : Program} {w : World} {H : Hp} {s : Shared} {e : Value} {s' : Shared} (h : L2.CX P w [] H s (fun _ _ _ => False) e s') : False := by
  unfold L2.CX at h
  obtain ⟨a, B, H', cls, d, _, _, _, _, _, _, _, h⟩ := h
  exact h
end MP

namespace MP
open PySem PySem.Spec L2

/-! ## plain laws of the terms: what they do on given slots -/
section
variable (E : SEnv)
@[simp] theorem e_var (i : Nat) : mVar i E = match E[i]? with
  | some .un => .no
  | some _ => .ok (.bor i) E
  | none => .no := rfl
@[simp] theorem e_d (d : D) : mD d E = .ok (.val d) E := rfl
@[simp] theorem e_m2 (f : D → D → Option Rv) (a b : M Ret) : m2 f a b E = (a E).bind fun r1 E1 => (b E1).bind fun r2 E2 => op2 f E2 r1 r2 := rfl
@[simp] theorem e_m1 (f : D → Option Rv) (a : M Ret) : m1 f a E = (a E).bind fun r1 E1 => op1 f E1 r1 := rfl
@[simp] theorem e_mN (f : List D → Option Rv) (as : M (List Ret)) : mN f as E = (as E).bind fun rs E1 => opN f E1 rs := rfl
@[simp] theorem e_A0 : mA0 E = .ok [] E := rfl
@[simp] theorem e_A1 (a : M Ret) (as : M (List Ret)) : mA1 a as E = (a E).bind fun r E1 => (as E1).bind fun rs E2 => .ok (r :: rs) E2 := rfl
@[simp] theorem e_op2 (f : D → D → Option Rv) (r1 r2 : Ret) : op2 f E r1 r2 = match dat E r1, dat E r2 with
  | some a, some b => (match f a b with
    | some rv => .ok rv.ret E
    | none => .no)
  | _, _ => .no := rfl
@[simp] theorem e_op1 (f : D → Option Rv) (r1 : Ret) : op1 f E r1 = match dat E r1 with
  | some a => (match f a with
    | some rv => .ok rv.ret E
    | none => .no)
  | _ => .no := rfl
@[simp] theorem e_opN (f : List D → Option Rv) (rs : List Ret) : opN f E rs = match dats E rs with
  | some ds => (match f ds with
    | some rv => .ok rv.ret E
    | none => .no)
  | _ => .no := rfl
@[simp] theorem e_mMul (a b : M Ret) : mMul a b E = (a E).bind fun r1 E1 => (b E1).bind fun r2 E2 => match r1, dat E2 r2 with
  | .own (.lst xs), some (.int k) => if Ok (smallI k = true ∧ xs.length * k.toNat ≤ big) then .ok (.own (.lst (List.replicate k.toNat xs).flatten)) E2 else .no
  | _, _ => op2 mulF E2 r1 r2 := rfl
@[simp] theorem e_dat_val (d : D) : dat E (.val d) = some d := rfl
@[simp] theorem e_dat_own (ds : List D) : dat E (.own (.lst ds)) = some (.list ds) := rfl
@[simp] theorem e_dat_bor (i : Nat) : dat E (.bor i) = (E[i]?).bind Slot.dat := rfl
@[simp] theorem e_sdat_val (d : D) : (Slot.val d).dat = some d := rfl
@[simp] theorem e_sdat_own (ds : List D) : (Slot.own (.lst ds)).dat = some (.list ds) := rfl
@[simp] theorem e_sdat_lnt (ds : List D) : (Slot.lnt (.lst ds)).dat = some (.list ds) := rfl
@[simp] theorem e_sdat_lck (ds : List D) : (Slot.lck (.lst ds)).dat = some (.list ds) := rfl
@[simp] theorem e_dats0 : dats E [] = some [] := rfl
@[simp] theorem e_dats1 (r : Ret) (rs : List Ret) : dats E (r :: rs) = match dat E r, dats E rs with
    | some d, some ds => some (d :: ds)
    | _, _ => none := rfl
@[simp] theorem e_take_val (d : D) : take E (.val d) = some (d, E) := rfl
@[simp] theorem e_take_own (ds : List D) : take E (.own (.lst ds)) = some (.list ds, E) := rfl
@[simp] theorem e_take_bor (i : Nat) : take E (.bor i) = match E[i]? with
    | some (.val d) => some (d, E)
    | some (.own (.lst ds)) => some (.list ds, E.set i (.val (.list ds)))
    | _ => none := rfl
@[simp] theorem e_takes0 : takes E [] = some ([], E) := rfl
@[simp] theorem e_takes1 (r : Ret) (rs : List Ret) : takes E (r :: rs) = match take E r with
    | some (d, E1) => (match takes E1 rs with
      | some (ds, E2) => some (d :: ds, E2)
      | none => none)
    | none => none := rfl
@[simp] theorem e_keep (f : List D → Option Rv) (as : M (List Ret)) : mKeep f as E = (as E).bind fun rs E1 => match takes E1 rs with
  | some (ds, E2) => (match f ds with
    | some rv => .ok rv.ret E2
    | none => .no)
  | none => .no := rfl
@[simp] theorem e_tup (as : M (List Ret)) : mTup as E = mKeep tupF as E := rfl
@[simp] theorem e_lst (as : M (List Ret)) : mLst as E = mKeep lstF as E := rfl
@[simp] theorem e_retv (d : D) : Rv.ret (.val d) = .val d := rfl
@[simp] theorem e_reto (o : MO) : Rv.ret (.own o) = .own o := rfl
@[simp] theorem e_tru (m : M Ret) : mTru m E = (m E).bind fun r E1 => match dat E1 r with
  | some d => (match truD d with
    | some b => .ok b E1
    | none => .no)
  | none => .no := rfl
@[simp] theorem e_bl (m : M Ret) : mBl m E = (m E).bind fun r E1 => match dat E1 r with
  | some (.bool b) => .ok b E1
  | _ => .no := rfl
@[simp] theorem e_and (a b : M Bool) : mAnd a b E = (a E).bind fun c E1 => if c = true then b E1 else .ok false E1 := rfl
@[simp] theorem e_or (a b : M Bool) : mOr a b E = (a E).bind fun c E1 => if c = true then .ok true E1 else b E1 := rfl
@[simp] theorem e_not (a : M Bool) : mNot a E = (a E).bind fun c E1 => .ok (!c) E1 := rfl
@[simp] theorem e_andV (a b : M Ret) : mAndV a b E = (mBl a E).bind fun c E1 => if c = true then b E1 else .ok (.val (.bool false)) E1 := rfl
@[simp] theorem e_orV (a b : M Ret) : mOrV a b E = (mBl a E).bind fun c E1 => if c = true then .ok (.val (.bool true)) E1 else b E1 := rfl
@[simp] theorem e_notV (a : M Ret) : mNotV a E = (mBl a E).bind fun c E1 => .ok (.val (.bool (!c))) E1 := rfl
@[simp] theorem e_ifE (c : M Bool) (a b : M Ret) : mIfE c a b E = (c E).bind fun k E1 => if k = true then a E1 else b E1 := rfl
@[simp] theorem e_nx : mNx E = .ok .nx E := rfl
@[simp] theorem e_seq (a b : M Fl) : mSeq a b E = (a E).bind fun f E1 => match f with
  | .nx => b E1
  | f => .ok f E1 := rfl
@[simp] theorem e_exp (a : M Ret) : mExp a E = (a E).bind fun _ E1 => .ok .nx E1 := rfl
@[simp] theorem e_to (g : Ret → SEnv → Option SEnv) (a : M Ret) : mTo g a E = (a E).bind fun r E1 => match g r E1 with
  | some E2 => .ok .nx E2
  | none => .no := rfl
@[simp] theorem e_set (i : Nat) (a : M Ret) : mSet i a E = mTo (mStore i) a E := rfl
@[simp] theorem e_if (c : M Bool) (a b : M Fl) : mIf c a b E = (c E).bind fun k E1 => if k = true then a E1 else b E1 := rfl
@[simp] theorem e_ret (a : M Ret) : mRet a E = (a E).bind fun r E1 => .ok (.rt r) E1 := rfl
@[simp] theorem e_retN : mRetN E = .ok (.rt (.val .none)) E := rfl
@[simp] theorem e_brk : mBrk E = .ok .bk E := rfl
@[simp] theorem e_cnt : mCnt E = .ok .ct E := rfl
@[simp] theorem e_store (i : Nat) (r : Ret) : mStore i r E = match E[i]? with
  | none => none
  | some s => if s.free then (match r with
    | .own o => some (E.set i (.own o))
    | .val d => some (E.set i (.val d))
    | .bor j => (match E[j]? with
      | some (.val d) => some (E.set i (.val d))
      | some (.exc x) => some (E.set i (.exc x))
      | some (.own (.lst ds)) => some ((E.set j (.val (.list ds))).set i (.val (.list ds)))
      | _ => none)) else none := rfl
@[simp] theorem e_free_un : Slot.free .un = true := rfl
@[simp] theorem e_free_val (d : D) : Slot.free (.val d) = true := rfl
@[simp] theorem e_free_own (o : MO) : Slot.free (.own o) = true := rfl
@[simp] theorem e_free_exc (o : Exn) : Slot.free (.exc o) = true := rfl
@[simp] theorem e_free_lnt (o : MO) : Slot.free (.lnt o) = false := rfl
@[simp] theorem e_free_lck (o : MO) : Slot.free (.lck o) = false := rfl
@[simp] theorem e_it (m : M Ret) : mIt m E = (m E).bind fun r E1 => match r with
  | .val (.list ds) => .ok (ds, none) E1
  | .val (.tuple ds) => .ok (ds, none) E1
  | .own (.lst ds) => .ok (ds, none) E1
  | .bor j => (match E1[j]? with
    | some (.val (.list ds)) => .ok (ds, none) E1
    | some (.val (.tuple ds)) => .ok (ds, none) E1
    | some (.own (.lst ds)) => .ok (ds, some j) E1
    | _ => .no)
  | _ => .no := rfl
@[simp] theorem e_rng (f : List D → Option (List D)) (ms : M (List Ret)) : mRng f ms E = (ms E).bind fun rs E1 => match dats E1 rs with
  | some ds => (match f ds with
    | some its => .ok (its, none) E1
    | none => .no)
  | none => .no := rfl
@[simp] theorem e_call (g : List D → FR) (ms : M (List Ret)) : mCall g ms E = (ms E).bind fun rs E1 => match dats E1 rs with
  | none => .no
  | some ds => (match g ds with
    | .no => .no
    | .ex x => .ex x E1
    | .ok v => if v.pure = true then .ok v.ret E1 else (match takes E1 rs with
      | some (_, E2) => .ok v.ret E2
      | none => .no)) := rfl
@[simp] theorem e_guardL (i : Nat) (m : M Ret) : guardL i m E = if isLst E i = true then m E else .no := rfl
@[simp] theorem e_isLst (i : Nat) : isLst E i = match E[i]? with
  | some (.own (.lst _)) => true
  | some (.lnt (.lst _)) => true
  | _ => false := rfl
@[simp] theorem e_mMut (i : Nat) (f : MF) (as : M (List Ret)) : mMut i f as E = (as E).bind fun rs E1 => match takes E1 rs with
  | some (ds, E2) => putM i E2 E2[i]? ds f
  | none => .no := rfl
@[simp] theorem e_mMutB (i : Nat) (f : MF) (as : M (List Ret)) : mMutB i f as E = (as E).bind fun rs E1 => match dats E1 rs with
  | some ds => putM i E1 E1[i]? ds f
  | none => .no := rfl
@[simp] theorem e_putM (i : Nat) (ls as : List D) (f : MF) : putM i E (some (.own (.lst ls))) as f = match f ls as with
    | some (ls', d) => .ok (.val d) (E.set i (.own (.lst ls')))
    | none => .no := rfl
@[simp] theorem e_putMl (i : Nat) (ls as : List D) (f : MF) : putM i E (some (.lnt (.lst ls))) as f = match f ls as with
    | some (ls', d) => .ok (.val d) (E.set i (.lnt (.lst ls')))
    | none => .no := rfl
@[simp] theorem e_retO1 (rv : Rv) : retO (some rv) E = .ok rv.ret E := rfl
@[simp] theorem e_retO0 : retO none E = .no := rfl
@[simp] theorem e_din (neg : Bool) (i : Nat) (mk : M Ret) : mDin neg i mk E = (mk E).bind fun r E1 => retO (dinE neg E1[i]? (dat E1 r)) E1 := rfl
@[simp] theorem e_dget (i : Nat) (mk : M Ret) : mDget i mk E = if isDic E[i]? = true then (mk E).bind fun r E1 => retO (dgetE E1[i]? (dat E1 r)) E1 else .no := rfl
@[simp] theorem e_dput (i : Nat) (mk mv : M Ret) : mDput i mk mv E = (mv E).bind fun rv E1 => if isDic E1[i]? = true then (mk E1).bind fun rk E2 => (match dputE i rk rv E2 with
  | some E3 => .ok .nx E3
  | none => .no) else .no := rfl
@[simp] theorem e_isDic (kds : List (Key × D)) : isDic (some (.own (.dic kds))) = true := rfl
@[simp] theorem e_dputE (i : Nat) (rk rv : Ret) : dputE i rk rv E = match dat E rk, take E rv with
  | some d, some (y, E1) => (match keyD d, E1[i]? with
    | some k, some (.own (.dic kds)) => if Ok (kds.length < big) then some (E1.set i (.own (.dic (putD kds k y)))) else none
    | _, _ => none)
  | _, _ => none := rfl
@[simp] theorem e_keyI (i : Int) : keyD (.int i) = some (.inl i) := rfl
@[simp] theorem e_keyS (i : Str) : keyD (.str i) = some (.inr i) := rfl
@[simp] theorem e_dinE (neg : Bool) (kds : List (Key × D)) (d : D) : dinE neg (some (.own (.dic kds))) (some d) = match keyD d with
    | some k => some (.val (.bool (if neg then !(valD kds k).isSome else (valD kds k).isSome)))
    | none => none := rfl
@[simp] theorem e_gs0 (ds : List D) : gs0 ds E = match ds with
  | [] => some E
  | _ => none := rfl
@[simp] theorem e_gs1 (g : MG) (gs : List D → SEnv → Option SEnv) (ds : List D) : gs1 g gs ds E = match ds with
  | d :: ds => (match g (.val d) E with
    | some E1 => gs ds E1
    | none => none)
  | [] => none := rfl
@[simp] theorem e_gTup (n : Nat) (gs : List D → SEnv → Option SEnv) (r : Ret) : gTupF n gs r E = match dat E r with
  | some (.tuple ds) => if ds.length = n then gs ds E else none
  | _ => none := rfl
@[simp] theorem e_conv_val (d : D) : conv E (.val d) = .ok (.val d) := rfl
@[simp] theorem e_conv_own (o : MO) : conv E (.own o) = .ok (.own o) := rfl
@[simp] theorem e_conv_bor (i : Nat) : conv E (.bor i) = match E[i]? with
    | some (.val d) => .ok (.val d)
    | some (.own o) => .ok (.own o)
    | _ => .no := rfl
end
@[simp] theorem e_pure_val (d : D) : Rv.pure (.val d) = pureD d := rfl
@[simp] theorem e_pure_own (ds : List D) : Rv.pure (.own (.lst ds)) = pureAll ds := rfl
@[simp] theorem p_none : pureD .none = true := by simp [pureD]
@[simp] theorem p_bool (b : Bool) : pureD (.bool b) = true := by simp [pureD]
@[simp] theorem p_int (b : Int) : pureD (.int b) = true := by simp [pureD]
@[simp] theorem p_str (b : Str) : pureD (.str b) = true := by simp [pureD]
@[simp] theorem p_list (b : List D) : pureD (.list b) = false := by simp [pureD]
@[simp] theorem p_tup (b : List D) : pureD (.tuple b) = pureAll b := by simp [pureD]
@[simp] theorem p_nil : pureAll [] = true := by simp [pureAll]
@[simp] theorem p_cons (d : D) (ds : List D) : pureAll (d :: ds) = (pureD d && pureAll ds) := by simp [pureAll]
theorem p_map {α : Type} {f : α → D} : ∀ {as : List α}, (∀ a ∈ as, pureD (f a) = true) → pureAll (as.map f) = true
  | [], _ => p_nil
  | a :: as, h => by
    rw [List.map_cons, p_cons, h a List.mem_cons_self, p_map fun b hb => h b (List.mem_cons_of_mem _ hb)]; rfl
@[simp] theorem p_ints (as : List Int) : pureAll (as.map PyData.int) = true := p_map fun _ _ => p_int _
@[simp] theorem p_bools (as : List Bool) : pureAll (as.map PyData.bool) = true := p_map fun _ _ => p_bool _
@[simp] theorem t_none : truD .none = some false := rfl
@[simp] theorem t_bool (b : Bool) : truD (.bool b) = some b := rfl
@[simp] theorem t_int (i : Int) : truD (.int i) = some (i != 0) := rfl
@[simp] theorem t_list (ds : List D) : truD (.list ds) = some (!ds.isEmpty) := rfl
@[simp] theorem t_tuple (ds : List D) : truD (.tuple ds) = some (!ds.isEmpty) := rfl
@[simp] theorem f_addI (i j : Int) : addF (.int i) (.int j) = some (.val (.int (i + j))) := rfl
@[simp] theorem f_subI (i j : Int) : subF (.int i) (.int j) = some (.val (.int (i - j))) := rfl
@[simp] theorem f_mulI (i j : Int) : mulF (.int i) (.int j) = if Ok (mulOk i j) then some (.val (.int (i * j))) else none := rfl
@[simp] theorem f_divI (i j : Int) : divF (.int i) (.int j) = if Ok (0 < j ∧ j.natAbs.log2 < 9000) then some (.val (.int (i / j))) else none := rfl
@[simp] theorem f_modI (i j : Int) : modF (.int i) (.int j) = if Ok (0 < j) then some (.val (.int (i % j))) else none := rfl
@[simp] theorem f_negI (i : Int) : negF (.int i) = some (.val (.int (-i))) := rfl
@[simp] theorem f_addL (a b : List D) : addF (.list a) (.list b) = if Ok (a.length + b.length ≤ big) then some (.own (.lst (a ++ b))) else none := rfl
@[simp] theorem f_addT (a b : List D) : addF (.tuple a) (.tuple b) = if Ok (a.length + b.length ≤ big) then some (.val (.tuple (a ++ b))) else none := rfl
@[simp] theorem f_eqI (i j : Int) : eqF (.int i) (.int j) = some (.val (.bool (decide (i = j)))) := rfl
@[simp] theorem f_neI (i j : Int) : neF (.int i) (.int j) = some (.val (.bool (!decide (i = j)))) := rfl
@[simp] theorem f_ltI (i j : Int) : ltF (.int i) (.int j) = some (.val (.bool (decide (i < j)))) := rfl
@[simp] theorem f_leI (i j : Int) : leF (.int i) (.int j) = some (.val (.bool (decide (i ≤ j)))) := rfl
@[simp] theorem f_gtI (i j : Int) : gtF (.int i) (.int j) = some (.val (.bool (decide (j < i)))) := rfl
@[simp] theorem f_geI (i j : Int) : geF (.int i) (.int j) = some (.val (.bool (decide (j ≤ i)))) := rfl
@[simp] theorem f_ixL (ds : List D) (i : Int) : ixF (.list ds) (.int i) = (atI ds i).map Rv.val := rfl
@[simp] theorem f_ixT (ds : List D) (i : Int) : ixF (.tuple ds) (.int i) = (atI ds i).map Rv.val := rfl
@[simp] theorem f_lenL (ds : List D) : lenF [.list ds] = some (.val (.int ds.length)) := rfl
@[simp] theorem f_lenT (ds : List D) : lenF [.tuple ds] = some (.val (.int ds.length)) := rfl
@[simp] theorem f_listL (ds : List D) : listF [.list ds] = some (.own (.lst ds)) := rfl
@[simp] theorem f_listT (ds : List D) : listF [.tuple ds] = some (.own (.lst ds)) := rfl
@[simp] theorem f_tupL (ds : List D) : tupleF [.list ds] = some (.val (.tuple ds)) := rfl
@[simp] theorem f_tupT (ds : List D) : tupleF [.tuple ds] = some (.val (.tuple ds)) := rfl
@[simp] theorem f_abs (i : Int) : absF [.int i] = some (.val (.int (if i < 0 then -i else i))) := rfl
@[simp] theorem f_intI (i : Int) : intF [.int i] = some (.val (.int i)) := rfl
@[simp] theorem f_intB (k : Bool) : intF [.bool k] = some (.val (.int (if k then 1 else 0))) := rfl
@[simp] theorem f_max2 (i j : Int) : max2F [.int i, .int j] = some (.val (.int (if j > i then j else i))) := rfl
@[simp] theorem f_min2 (i j : Int) : min2F [.int i, .int j] = some (.val (.int (if j < i then j else i))) := rfl
@[simp] theorem f_sortedL (is : List Int) : sortedF [.list (is.map PyData.int)] = some (.own (.lst ((sortI is).map PyData.int))) := by simp [sortedF, onInts]
@[simp] theorem f_sortedT (is : List Int) : sortedF [.tuple (is.map PyData.int)] = some (.own (.lst ((sortI is).map PyData.int))) := by simp [sortedF, onInts]
@[simp] theorem f_sumL (is : List Int) : sumF [.list (is.map PyData.int)] = some (.val (.int is.sum)) := by simp [sumF, onIntsL]
@[simp] theorem f_anyL (is : List Bool) : anyF [.list (is.map PyData.bool)] = some (.val (.bool (is.any id))) := by simp [anyF, onBlsL]
@[simp] theorem f_allL (is : List Bool) : allF [.list (is.map PyData.bool)] = some (.val (.bool (is.all id))) := by simp [allF, onBlsL]
theorem f_minL {is : List Int} (h : is ≠ []) : minF [.list (is.map PyData.int)] = some (.val (.int (minI is))) := by simp [minF, onInts, h]
theorem f_minT {is : List Int} (h : is ≠ []) : minF [.tuple (is.map PyData.int)] = some (.val (.int (minI is))) := by simp [minF, onInts, h]
theorem f_maxL {is : List Int} (h : is ≠ []) : maxF [.list (is.map PyData.int)] = some (.val (.int (maxI is))) := by simp [maxF, onInts, h]
theorem f_maxT {is : List Int} (h : is ≠ []) : maxF [.tuple (is.map PyData.int)] = some (.val (.int (maxI is))) := by simp [maxF, onInts, h]
@[simp] theorem f_isi (t : Ty) (d : D) : isiF t d = match d with
  | .dict _ => none
  | d => some (.val (.bool (isiB t d))) := rfl
@[simp] theorem i_int (i : Int) : isiB .int (.int i) = true := rfl
@[simp] theorem i_boolI (i : Int) : isiB .bool (.int i) = false := rfl
@[simp] theorem i_list (ds : List D) : isiB .list (.list ds) = true := rfl
@[simp] theorem i_tuple (ds : List D) : isiB .tuple (.tuple ds) = true := rfl
@[simp] theorem i_bool (i : Bool) : isiB .bool (.bool i) = true := rfl
theorem smallR_n {n : Nat} (h : n ≤ 1000000) : smallR 0 (n : Int) = true := by unfold smallR; simp; omega
theorem smallI_n {n : Nat} (h : n ≤ 1000000) : smallI (n : Int) = true := by unfold smallI; simp; omega
theorem smallI_i {i : Int} (h : -1000000 ≤ i) (h2 : i ≤ 1000000) : smallI i = true := by unfold smallI; simp; omega
theorem f_rng1 {n : Nat} (h : n ≤ 1000000) : rng1F [.int (n : Int)] = some (rangeD 0 n) := by
  show (if Ok (smallI (n : Int) = true) then some (rangeD 0 (n : Int)) else none) = _
  rw [ok_pos (smallI_n h)]
theorem rangeD_n (n : Nat) : rangeD 0 (n : Int) = (List.range n).map fun (i : Nat) => PyData.int (i : Int) := by
  unfold rangeD
  simp
theorem f_rng2 {i j : Int} (h1 : -1000000 ≤ i) (h2 : i ≤ 1000000) (h3 : -1000000 ≤ j) (h4 : j ≤ 1000000) : rng2F [.int i, .int j] = some (rangeD i j) := by
  show (if Ok ((smallI i && smallI j) = true) then some (rangeD i j) else none) = _
  rw [ok_pos (by rw [smallI_i h1 h2, smallI_i h3 h4]; rfl)]
theorem f_lrg1 {n : Nat} (h : n ≤ 1000000) : lrg1F (.int (n : Int)) = some (.own (.lst (rangeD 0 n))) := by
  show (if Ok (smallR 0 (n : Int) = true) then some (Rv.own (.lst (rangeD 0 (n : Int)))) else none) = _
  rw [ok_pos (smallR_n h)]
theorem f_trg1 {n : Nat} (h : n ≤ 1000000) : trg1F (.int (n : Int)) = some (.val (.tuple (rangeD 0 n))) := by
  show (if Ok (smallR 0 (n : Int) = true) then some (Rv.val (.tuple (rangeD 0 (n : Int)))) else none) = _
  rw [ok_pos (smallR_n h)]
@[simp] theorem mulOk_small {i j : Int} (h : -(2 ^ 64) < j ∧ j < 2 ^ 64) : mulOk i j := .inr (.inl h)

/-! ### places -/
theorem atI_map {α β : Type} (f : α → β) (as : List α) (i : Int) : atI (as.map f) i = (atI as i).map f := by
  unfold atI
  rw [List.length_map]
  cases ixN as.length i with
  | none => rfl
  | some j => simp
theorem atI_get' {α : Type} {as : List α} {j : Nat} (h : j < as.length) : atI as (j : Int) = some as[j] := by
  unfold atI ixN
  rw [if_pos (Int.natCast_nonneg j), if_pos (by omega)]
  simp
theorem atI_last' {α : Type} {as : List α} (h : as ≠ []) : atI as (-1) = some (as.getLast h) := by
  have hl := List.length_pos_iff.mpr h
  unfold atI ixN
  rw [if_neg (by omega), if_pos (by omega)]
  have : (-1 + (as.length : Int)).toNat = as.length - 1 := by omega
  rw [this]
  simp [List.getLast_eq_getElem]

/-! ### equality -/
structure Lay {α : Type} [DecidableEq α] (f : α → D) (k : Nat) : Prop where
  lay : ∀ x, (f x).canLay0 = true
  dep : ∀ x, (f x).depth ≤ k
  eq : ∀ x y, PyData.eqv (f x) (f y) = decide (x = y)
theorem Lay.int : Lay PyData.int 0 := ⟨fun _ => rfl, fun _ => Nat.le_refl _, fun x y => by
  rw [show PyData.eqv (.int x) (.int y) = (x == y) by unfold PyData.eqv; rfl]
  rfl⟩
theorem Lay.bool : Lay PyData.bool 0 := ⟨fun _ => rfl, fun _ => Nat.le_refl _, fun x y => by
  rw [show PyData.eqv (.bool x) (.bool y) = (x == y) by unfold PyData.eqv; rfl]
  cases x <;> cases y <;> rfl⟩
section
variable {α : Type} [DecidableEq α] {f : α → D} {k : Nat}
theorem Lay.all (L : Lay f k) : ∀ as : List α, PyData.canLayAll0 (as.map f) = true ∧ PyData.depthAll (as.map f) ≤ k
  | [] => ⟨rfl, Nat.zero_le _⟩
  | a :: as => by
    obtain ⟨h1, h2⟩ := L.all as
    rw [List.map_cons]
    refine ⟨?_, ?_⟩
    · show ((f a).canLay0 && PyData.canLayAll0 (as.map f)) = true
      rw [L.lay a, h1]; rfl
    · show max (f a).depth (PyData.depthAll (as.map f)) ≤ k
      exact Nat.max_le.mpr ⟨L.dep a, h2⟩
theorem Lay.eqs (L : Lay f k) : ∀ as bs : List α, PyData.eqvAll (as.map f) (bs.map f) = decide (as = bs)
  | [], [] => by simp [PyData.eqvAll]
  | [], b :: bs => by simp [PyData.eqvAll]
  | a :: as, [] => by simp [PyData.eqvAll]
  | a :: as, b :: bs => by
    rw [List.map_cons, List.map_cons, PyData.eqvAll, L.eq, L.eqs as bs]
    by_cases h1 : a = b
    · by_cases h2 : as = bs
      · simp [h1, h2]
      · simp [h1, h2]
    · simp [h1]
theorem Lay.list (L : Lay f k) : Lay (fun as : List α => PyData.list (as.map f)) (k + 1) := ⟨fun as => (L.all as).1, fun as => Nat.succ_le_succ (L.all as).2, fun as bs => by rw [PyData.eqv]; exact L.eqs as bs⟩
theorem Lay.tuple (L : Lay f k) : Lay (fun as : List α => PyData.tuple (as.map f)) (k + 1) := ⟨fun as => (L.all as).1, fun as => Nat.succ_le_succ (L.all as).2, fun as bs => by rw [PyData.eqv]; exact L.eqs as bs⟩
theorem Lay.shaped (L : Lay f k) (hk : k ≤ 64) (x : α) : SeqAt.shaped (f x) = true := by
  unfold SeqAt.shaped
  rw [L.lay x, decide_eq_true (Nat.le_trans (L.dep x) hk)]; rfl
theorem eq_list (L : Lay f k) (hk : k < 64) (as bs : List α) : eqF (.list (as.map f)) (.list (bs.map f)) = some (.val (.bool (decide (as = bs)))) := by
  show (if Ok (SeqAt.shaped _ = true ∧ SeqAt.shaped _ = true) then _ else _) = _
  rw [ok_pos ⟨L.list.shaped hk as, L.list.shaped hk bs⟩, L.list.eq]
theorem ne_list (L : Lay f k) (hk : k < 64) (as bs : List α) : neF (.list (as.map f)) (.list (bs.map f)) = some (.val (.bool (!decide (as = bs)))) := by
  show (if Ok (SeqAt.shaped _ = true ∧ SeqAt.shaped _ = true) then _ else _) = _
  rw [ok_pos ⟨L.list.shaped hk as, L.list.shaped hk bs⟩, L.list.eq]
theorem eq_tuple (L : Lay f k) (hk : k < 64) (as bs : List α) : eqF (.tuple (as.map f)) (.tuple (bs.map f)) = some (.val (.bool (decide (as = bs)))) := by
  show (if Ok (SeqAt.shaped _ = true ∧ SeqAt.shaped _ = true) then _ else _) = _
  rw [ok_pos ⟨L.tuple.shaped hk as, L.tuple.shaped hk bs⟩, L.tuple.eq]
theorem ne_tuple (L : Lay f k) (hk : k < 64) (as bs : List α) : neF (.tuple (as.map f)) (.tuple (bs.map f)) = some (.val (.bool (!decide (as = bs)))) := by
  show (if Ok (SeqAt.shaped _ = true ∧ SeqAt.shaped _ = true) then _ else _) = _
  rw [ok_pos ⟨L.tuple.shaped hk as, L.tuple.shaped hk bs⟩, L.tuple.eq]
end
@[simp] theorem f_eqLI (as bs : List Int) : eqF (.list (as.map PyData.int)) (.list (bs.map PyData.int)) = some (.val (.bool (decide (as = bs)))) := eq_list Lay.int (by decide) as bs
@[simp] theorem f_neLI (as bs : List Int) : neF (.list (as.map PyData.int)) (.list (bs.map PyData.int)) = some (.val (.bool (!decide (as = bs)))) := ne_list Lay.int (by decide) as bs
@[simp] theorem f_eqTI (as bs : List Int) : eqF (.tuple (as.map PyData.int)) (.tuple (bs.map PyData.int)) = some (.val (.bool (decide (as = bs)))) := eq_tuple Lay.int (by decide) as bs
@[simp] theorem f_neTI (as bs : List Int) : neF (.tuple (as.map PyData.int)) (.tuple (bs.map PyData.int)) = some (.val (.bool (!decide (as = bs)))) := ne_tuple Lay.int (by decide) as bs
@[simp] theorem f_eqT0 (as : List Int) : eqF (.tuple (as.map PyData.int)) (.tuple []) = some (.val (.bool (decide (as = [])))) := f_eqTI as []

/-! ### loops -/
section
variable {g : MG} {b : M Fl}
/-- a loop that never leaves early -/
theorem forL_run {its : List D} (I : Nat → SEnv → Prop) (hs : ∀ (i : Nat) (hi : i < its.length) (E : SEnv), I i E → ∃ E1 E2, g (.val its[i]) E = some E1 ∧ (b E1 = .ok .nx E2 ∨ b E1 = .ok .ct E2) ∧ I (i + 1) E2) :
    ∀ (n i : Nat) (E : SEnv), i + n = its.length → I i E → ∃ E', mForL g b (its.drop i) E = .ok .nx E' ∧ I its.length E'
  | 0, i, E, hn, h => by
    have e : i = its.length := by omega
    subst e
    rw [List.drop_length]
    exact ⟨E, rfl, h⟩
  | n + 1, i, E, hn, h => by
    have hi : i < its.length := by omega
    obtain ⟨E1, E2, e1, e2, h2⟩ := hs i hi E h
    obtain ⟨E', e3, h3⟩ := forL_run I hs n (i + 1) E2 (by omega) h2
    refine ⟨E', ?_, h3⟩
    rw [List.drop_eq_getElem_cons hi]
    simp only [mForL, e1]
    rcases e2 with e2 | e2 <;> simp only [e2, bind_ok] <;> exact e3
theorem for_none {mi : MI} {E E1 : SEnv} {its : List D} (hmi : mi E = .ok (its, none) E1) (I : Nat → SEnv → Prop) (h0 : I 0 E1) (hs : ∀ (i : Nat) (hi : i < its.length) (E : SEnv), I i E → ∃ E1 E2, g (.val its[i]) E = some E1 ∧ (b E1 = .ok .nx E2 ∨ b E1 = .ok .ct E2) ∧ I (i + 1) E2) :
    ∃ E', mFor mi g b E = .ok .nx E' ∧ I its.length E' := by
  obtain ⟨E', e, h⟩ := forL_run I hs its.length 0 E1 (by omega) h0
  rw [List.drop_zero] at e
  refine ⟨E', ?_, h⟩
  unfold mFor
  rw [hmi]
  simp only [bind_ok, lockE]
  rw [e]
  rfl
theorem for_own {mi : MI} {E E1 : SEnv} {its : List D} {j : Nat} {ds : List D} (hmi : mi E = .ok (its, some j) E1) (hj : E1[j]? = some (.own (.lst ds))) (I : Nat → SEnv → Prop) (h0 : I 0 (E1.set j (.lck (.lst ds)))) (hs : ∀ (i : Nat) (hi : i < its.length) (E : SEnv), I i E → ∃ E1 E2, g (.val its[i]) E = some E1 ∧ (b E1 = .ok .nx E2 ∨ b E1 = .ok .ct E2) ∧ I (i + 1) E2)
    (hl : ∀ E', I its.length E' → ∃ o, E'[j]? = some (.lck o)) : ∃ E' o, mFor mi g b E = .ok .nx (E'.set j (.own o)) ∧ I its.length E' ∧ E'[j]? = some (.lck o) := by
  obtain ⟨E', e, h⟩ := forL_run I hs its.length 0 _ (by omega) h0
  rw [List.drop_zero] at e
  obtain ⟨o, ho⟩ := hl E' h
  refine ⟨E', o, ?_, h, ho⟩
  unfold mFor
  rw [hmi]
  have q : lockE E1 (some j) = E1.set j (.lck (.lst ds)) := by simp only [lockE]; rw [hj]
  simp only [bind_ok]
  rw [q, e]
  simp [unlockX, unlockE, ho]
/-- a loop with a way out: the first i items go on, then it leaves -/
theorem forL_out {its : List D} (I : Nat → SEnv → Prop) (P : Res Fl → Prop) (hs : ∀ (i : Nat) (hi : i < its.length) (E : SEnv), I i E → ∃ E1, g (.val its[i]) E = some E1 ∧ ((∃ E2, (b E1 = .ok .nx E2 ∨ b E1 = .ok .ct E2) ∧ I (i + 1) E2) ∨ (∃ E2, b E1 = .ok .bk E2 ∧ P (.ok .nx E2)) ∨ (∃ r E2, b E1 = .ok (.rt r) E2 ∧ P (.ok (.rt r) E2)) ∨ (∃ x E2, b E1 = .ex x E2 ∧ P (.ex x E2))))
    (hd : ∀ E, I its.length E → P (.ok .nx E)) : ∀ (n i : Nat) (E : SEnv), i + n = its.length → I i E → P (mForL g b (its.drop i) E)
  | 0, i, E, hn, h => by
    have e : i = its.length := by omega
    subst e
    rw [List.drop_length]
    exact hd E h
  | n + 1, i, E, hn, h => by
    have hi : i < its.length := by omega
    obtain ⟨E1, e1, h2⟩ := hs i hi E h
    rw [List.drop_eq_getElem_cons hi]
    simp only [mForL, e1]
    rcases h2 with ⟨E2, e2, h2⟩ | ⟨E2, e2, h2⟩ | ⟨r, E2, e2, h2⟩ | ⟨x, E2, e2, h2⟩
    · have := forL_out I P hs hd n (i + 1) E2 (by omega) h2
      rcases e2 with e2 | e2 <;> simp only [e2, bind_ok] <;> exact this
    · simp only [e2, bind_ok]; exact h2
    · simp only [e2, bind_ok]; exact h2
    · simp only [e2, bind_ex]; exact h2
theorem for_out {mi : MI} {E E1 : SEnv} {its : List D} (hmi : mi E = .ok (its, none) E1) (I : Nat → SEnv → Prop) (P : Res Fl → Prop) (h0 : I 0 E1) (hs : ∀ (i : Nat) (hi : i < its.length) (E : SEnv), I i E → ∃ E1, g (.val its[i]) E = some E1 ∧ ((∃ E2, (b E1 = .ok .nx E2 ∨ b E1 = .ok .ct E2) ∧ I (i + 1) E2) ∨ (∃ E2, b E1 = .ok .bk E2 ∧ P (.ok .nx E2)) ∨ (∃ r E2, b E1 = .ok (.rt r) E2 ∧ P (.ok (.rt r) E2)) ∨ (∃ x E2, b E1 = .ex x E2 ∧ P (.ex x E2))))
    (hd : ∀ E, I its.length E → P (.ok .nx E)) : P (mFor mi g b E) := by
  have h := forL_out I P hs hd its.length 0 E1 (by omega) h0
  rw [List.drop_zero] at h
  unfold mFor
  rw [hmi]
  simp only [bind_ok, lockE]
  generalize mForL g b its E1 = r at h ⊢
  cases r <;> exact h
/-- while, with a measure -/
theorem while_run {c : M Bool} {b : M Fl} (I : SEnv → Prop) (P : Res Fl → Prop) (μ : SEnv → Nat) (hs : ∀ E, I E → (∃ E1, c E = .ok false E1 ∧ P (.ok .nx E1)) ∨ ∃ E1, c E = .ok true E1 ∧ ((∃ E2, (b E1 = .ok .nx E2 ∨ b E1 = .ok .ct E2) ∧ I E2 ∧ μ E2 < μ E) ∨ (∃ E2, b E1 = .ok .bk E2 ∧ P (.ok .nx E2)) ∨ (∃ r E2, b E1 = .ok (.rt r) E2 ∧ P (.ok (.rt r) E2))))
    (hP : P .no → False) {E : SEnv} (h : I E) : P (mWhile c b E) := by
  have key : ∀ n E, I E → μ E < n → P (mWhileF c b n E) := by
    intro n
    induction n with
    | zero => intro E _ hn; omega
    | succ n ih =>
      intro E hI hn
      rw [mWhileF]
      rcases hs E hI with ⟨E1, e1, p⟩ | ⟨E1, e1, h2⟩
      · simp only [e1, bind_ok]; exact p
      · simp only [e1, bind_ok, if_true]
        rcases h2 with ⟨E2, e2, hI2, hlt⟩ | ⟨E2, e2, p⟩ | ⟨r, E2, e2, p⟩
        · have := ih E2 hI2 (by omega)
          rcases e2 with e2 | e2 <;> simp only [e2, bind_ok] <;> exact this
        · simp only [e2, bind_ok]; exact p
        · simp only [e2, bind_ok]; exact p
  have hk := key (μ E + 1) E h (Nat.lt_succ_self _)
  rw [while_eq (n := μ E + 1) (fun e => by rw [e] at hk; exact hP hk)]
  exact hk
end

/-! ### comprehensions -/
theorem lcl_map {j : Nat} {mt : M Bool} {me : M Ret} {F : SEnv} {f : D → D} {p : D → Bool} (hj : j < F.length) : ∀ (its acc : List D), (∀ d ∈ its, ∃ r, mt (F.set j (.val d)) = .ok (p d) (F.set j (.val d)) ∧ (p d = true → me (F.set j (.val d)) = .ok r (F.set j (.val d)) ∧ take (F.set j (.val d)) r = some (f d, F.set j (.val d)))) → acc.length + its.length ≤ 1000000 →
    mLcL (st1 j) (wpE [j]) mt me its acc (F.set j .un) = .ok (acc ++ (its.filter p).map f) (F.set j .un)
  | [], acc, _, _ => by simp [mLcL]
  | d :: its, acc, h, hl => by
    obtain ⟨r, h1, h2⟩ := h d List.mem_cons_self
    rw [List.length_cons] at hl
    rw [mLcL]
    have e0 : st1 j d (F.set j .un) = some (F.set j (.val d)) := by unfold st1; rw [List.set_set]
    rw [e0]
    simp only [h1, noEx, bind_ok]
    have ew : wpE [j] (F.set j (.val d)) = some (F.set j .un) := by
      have : isFree (F.set j (.val d)) j = true := by unfold isFree; rw [List.getElem?_set_self hj]; rfl
      unfold wpE
      simp only [List.all_cons, List.all_nil, this, Bool.and_true, if_true]
      show some ((F.set j (.val d)).set j .un) = _
      rw [List.set_set]
    cases hp : p d with
    | true =>
      obtain ⟨h3, h4⟩ := h2 hp
      simp only [h3, bind_ok, h4, if_true]
      rw [ok_pos (by omega), ew]
      simp only
      rw [lcl_map hj its (acc ++ [f d]) (fun d' hd' => h d' (List.mem_cons_of_mem _ hd')) (by rw [List.length_append, List.length_singleton]; omega)]
      simp [hp]
    | false =>
      simp only [Bool.false_eq_true, if_false]
      rw [ew]
      simp only
      rw [lcl_map hj its acc (fun d' hd' => h d' (List.mem_cons_of_mem _ hd')) (by omega)]
      simp [hp]
/-- a comprehension over what isn't one's own -/
theorem lc_none {j : Nat} {mi : MI} {mt : M Bool} {me : M Ret} {E : SEnv} {its : List D} (f : D → D) (p : D → Bool) (hmi : mi E = .ok (its, none) E) (hh : isHid E j = true) (hl : its.length ≤ 1000000)
    (h : ∀ d ∈ its, ∃ r, mt (E.set j (.val d)) = .ok (p d) (E.set j (.val d)) ∧ (p d = true → me (E.set j (.val d)) = .ok r (E.set j (.val d)) ∧ take (E.set j (.val d)) r = some (f d, E.set j (.val d)))) :
    mLc [j] (st1 j) mi mt me E = .ok (.own (.lst ((its.filter p).map f))) E := by
  obtain ⟨s, es, _⟩ := hid_at hh
  have hj := (List.getElem?_eq_some_iff.mp es).1
  unfold mLc
  rw [hmi]
  simp only [bind_ok, List.all_cons, List.all_nil, hh, Bool.and_true, if_true, lockE]
  have q := lcl_map (F := E) hj its [] h (by simpa using hl)
  show (unlockX none (mLcL (st1 j) (wpE [j]) mt me its [] (E.set j .un))).bind _ = _
  rw [q]
  show Res.ok _ (restE E [j] (E.set j .un)) = _
  have : restE E [j] (E.set j .un) = E := by
    show ((E.set j .un).set j (E.getD j .un)) = E
    rw [List.set_set]
    refine set_at ?_
    rw [List.getD_eq_getElem?_getD, es]; rfl
  rw [this]
  simp
/-- over a list of one's own -/
theorem lc_own {j k : Nat} {mi : MI} {mt : M Bool} {me : M Ret} {E : SEnv} {its ds : List D} (f : D → D) (p : D → Bool) (hmi : mi E = .ok (its, some k) E) (hk : E[k]? = some (.own (.lst ds))) (hh : isHid E j = true) (hl : its.length ≤ 1000000)
    (h : ∀ d ∈ its, ∃ r, mt ((E.set k (.lck (.lst ds))).set j (.val d)) = .ok (p d) ((E.set k (.lck (.lst ds))).set j (.val d)) ∧ (p d = true → me ((E.set k (.lck (.lst ds))).set j (.val d)) = .ok r ((E.set k (.lck (.lst ds))).set j (.val d)) ∧ take ((E.set k (.lck (.lst ds))).set j (.val d)) r = some (f d, (E.set k (.lck (.lst ds))).set j (.val d)))) :
    mLc [j] (st1 j) mi mt me E = .ok (.own (.lst ((its.filter p).map f))) E := by
  obtain ⟨s, es, hs⟩ := hid_at hh
  have hj := (List.getElem?_eq_some_iff.mp es).1
  have hkl := (List.getElem?_eq_some_iff.mp hk).1
  have hne : j ≠ k := fun z => by subst z; rw [es] at hk; cases hk; cases hs
  unfold mLc
  rw [hmi]
  have q0 : lockE E (some k) = E.set k (.lck (.lst ds)) := by simp only [lockE]; rw [hk]
  simp only [bind_ok, List.all_cons, List.all_nil, hh, Bool.and_true, if_true]
  rw [q0]
  have q := lcl_map (F := E.set k (.lck (.lst ds))) (by rw [List.length_set]; exact hj) its [] h (by simpa using hl)
  show (unlockX (some k) (mLcL (st1 j) (wpE [j]) mt me its [] ((E.set k (.lck (.lst ds))).set j .un))).bind _ = _
  rw [q]
  have q2 : ((E.set k (.lck (.lst ds))).set j .un)[k]? = some (.lck (.lst ds)) := by rw [List.getElem?_set_ne hne, List.getElem?_set_self hkl]
  simp only [unlockX, unlockE, q2, bind_ok]
  have : restE E [j] (((E.set k (.lck (.lst ds))).set j .un).set k (.own (.lst ds))) = E := by
    show ((((E.set k (.lck (.lst ds))).set j .un).set k (.own (.lst ds))).set j (E.getD j .un)) = E
    rw [set_swap hne, List.set_set, List.set_set, set_at (l := E) hk]
    refine set_at ?_
    rw [List.getD_eq_getElem?_getD, es]; rfl
  rw [this]
  simp
end MP

namespace MP
open PySem PySem.Spec L2

/-! ### numbers from nought on -/
def nt (n : Nat) : D := .int (n : Int)
@[simp] theorem nt_eq (n : Nat) : nt n = .int (n : Int) := rfl
theorem Lay.nt : Lay MP.nt 0 := ⟨fun _ => rfl, fun _ => Nat.le_refl _, fun x y => by
  show PyData.eqv (.int (x : Int)) (.int (y : Int)) = _
  rw [Lay.int.eq]
  by_cases h : x = y
  · subst h; simp
  · have : ¬ ((x : Int) = (y : Int)) := by omega
    exact (decide_eq_false this).trans (decide_eq_false h).symm⟩
@[simp] theorem intsOf_nt : ∀ as : List Nat, intsOf (as.map nt) = some (as.map fun (n : Nat) => (n : Int))
  | [] => rfl
  | a :: as => by
    show (intsOf (as.map nt)).map (_ :: ·) = _
    rw [intsOf_nt as]; rfl
theorem map_nt (as : List Nat) : as.map nt = (as.map fun (n : Nat) => (n : Int)).map PyData.int := by
  rw [List.map_map]; rfl
@[simp] theorem f_eqLN (as bs : List Nat) : eqF (.list (as.map nt)) (.list (bs.map nt)) = some (.val (.bool (decide (as = bs)))) := eq_list Lay.nt (by decide) as bs
@[simp] theorem f_neLN (as bs : List Nat) : neF (.list (as.map nt)) (.list (bs.map nt)) = some (.val (.bool (!decide (as = bs)))) := ne_list Lay.nt (by decide) as bs
@[simp] theorem f_eqTN (as bs : List Nat) : eqF (.tuple (as.map nt)) (.tuple (bs.map nt)) = some (.val (.bool (decide (as = bs)))) := eq_tuple Lay.nt (by decide) as bs
@[simp] theorem f_neTN (as bs : List Nat) : neF (.tuple (as.map nt)) (.tuple (bs.map nt)) = some (.val (.bool (!decide (as = bs)))) := ne_tuple Lay.nt (by decide) as bs
@[simp] theorem f_eqTN0 (as : List Nat) : eqF (.tuple (as.map nt)) (.tuple []) = some (.val (.bool (decide (as = [])))) := f_eqTN as []
@[simp] theorem f_eqLN0 (as : List Nat) : eqF (.list (as.map nt)) (.list []) = some (.val (.bool (decide (as = [])))) := f_eqLN as []
@[simp] theorem p_nats (as : List Nat) : pureAll (as.map nt) = true := p_map fun _ _ => p_int _
/-- the numbers, rising -/
def sortN (as : List Nat) : List Nat := as.mergeSort fun a b => decide (a ≤ b)
theorem sortN_spec (as : List Nat) : (sortN as).Perm as ∧ (sortN as).Pairwise (· ≤ ·) := by
  refine ⟨List.mergeSort_perm _ _, ?_⟩
  have h := List.pairwise_mergeSort (le := fun a b : Nat => decide (a ≤ b)) (fun a b c h1 h2 => by simp at h1 h2 ⊢; omega) (fun a b => by simp; omega) as
  exact h.imp fun h => by simpa using h
theorem sort_nt (as : List Nat) : sortI (as.map fun (n : Nat) => (n : Int)) = (sortN as).map fun (n : Nat) => (n : Int) := by
  obtain ⟨h1, h2⟩ := sortN_spec as
  refine (sortI_eq (h1.map _) ?_).symm
  exact List.pairwise_map.mpr (h2.imp fun h => by omega)
@[simp] theorem f_sortedLN (as : List Nat) : sortedF [.list (as.map nt)] = some (.own (.lst ((sortN as).map nt))) := by
  rw [map_nt, f_sortedL, sort_nt, ← map_nt]
@[simp] theorem f_sortedTN (as : List Nat) : sortedF [.tuple (as.map nt)] = some (.own (.lst ((sortN as).map nt))) := by
  rw [map_nt, f_sortedT, sort_nt, ← map_nt]
theorem nat_sorted_eq : ∀ {l m : List Nat}, l.Perm m → l.Pairwise (· ≤ ·) → m.Pairwise (· ≤ ·) → l = m
  | [], m, h, _, _ => (List.nil_perm.mp h).symm
  | a :: l, [], h, _, _ => absurd h (by simp)
  | a :: l, b :: m, h, h1, h2 => by
    obtain ⟨g1, g2⟩ := List.pairwise_cons.mp h1
    obtain ⟨g3, g4⟩ := List.pairwise_cons.mp h2
    have ha : a ∈ b :: m := h.mem_iff.mp List.mem_cons_self
    have hb : b ∈ a :: l := h.mem_iff.mpr List.mem_cons_self
    have e : a = b := by
      rcases List.mem_cons.mp ha with e | ha
      · exact e
      · rcases List.mem_cons.mp hb with e | hb
        · exact e.symm
        · have := g1 b hb; have := g3 a ha; omega
    subst e
    rw [nat_sorted_eq (List.perm_cons a |>.mp h) g2 g4]
theorem sortN_eq {l m : List Nat} (h : m.Perm l) (h2 : m.Pairwise (· ≤ ·)) : sortN l = m := nat_sorted_eq ((sortN_spec l).1.trans h.symm) (sortN_spec l).2 h2
theorem range_sorted (n : Nat) : (List.range n).Pairwise (· ≤ ·) := by
  have := List.pairwise_lt_range (n := n)
  exact this.imp fun h => Nat.le_of_lt h
theorem sortN_range {l : List Nat} {n : Nat} (h : l.Perm (List.range n)) : sortN l = List.range n := sortN_eq h.symm (range_sorted n)
theorem rangeD_nt (n : Nat) : rangeD 0 (n : Int) = (List.range n).map nt := rangeD_n n
theorem f_lrg1N {n : Nat} (h : n ≤ 1000000) : lrg1F (.int (n : Int)) = some (.own (.lst ((List.range n).map nt))) := by rw [f_lrg1 h, rangeD_nt]
theorem f_trg1N {n : Nat} (h : n ≤ 1000000) : trg1F (.int (n : Int)) = some (.val (.tuple ((List.range n).map nt))) := by rw [f_trg1 h, rangeD_nt]
theorem f_rng1N {n : Nat} (h : n ≤ 1000000) : rng1F [.int (n : Int)] = some ((List.range n).map nt) := by rw [f_rng1 h, rangeD_nt]
/-- the least, the greatest -/
theorem min_nt {as : List Nat} {m : Nat} (h : m ∈ as) (h2 : ∀ y ∈ as, m ≤ y) : minI (as.map fun (n : Nat) => (n : Int)) = (m : Int) := by
  refine (minI_eq (List.mem_map.mpr ⟨m, h, rfl⟩) fun y hy => ?_).symm
  obtain ⟨z, hz, rfl⟩ := List.mem_map.mp hy
  have := h2 z hz; omega
theorem max_nt {as : List Nat} {m : Nat} (h : m ∈ as) (h2 : ∀ y ∈ as, y ≤ m) : maxI (as.map fun (n : Nat) => (n : Int)) = (m : Int) := by
  refine (maxI_eq (List.mem_map.mpr ⟨m, h, rfl⟩) fun y hy => ?_).symm
  obtain ⟨z, hz, rfl⟩ := List.mem_map.mp hy
  have := h2 z hz; omega
theorem f_minTN {as : List Nat} {m : Nat} (h : m ∈ as) (h2 : ∀ y ∈ as, m ≤ y) : minF [.tuple (as.map nt)] = some (.val (.int (m : Int))) := by
  rw [map_nt, f_minT (by intro e; rw [List.map_eq_nil_iff.mp e] at h; cases h), min_nt h h2]
theorem f_minLN {as : List Nat} {m : Nat} (h : m ∈ as) (h2 : ∀ y ∈ as, m ≤ y) : minF [.list (as.map nt)] = some (.val (.int (m : Int))) := by
  rw [map_nt, f_minL (by intro e; rw [List.map_eq_nil_iff.mp e] at h; cases h), min_nt h h2]
theorem f_maxTN {as : List Nat} {m : Nat} (h : m ∈ as) (h2 : ∀ y ∈ as, y ≤ m) : maxF [.tuple (as.map nt)] = some (.val (.int (m : Int))) := by
  rw [map_nt, f_maxT (by intro e; rw [List.map_eq_nil_iff.mp e] at h; cases h), max_nt h h2]
theorem f_maxLN {as : List Nat} {m : Nat} (h : m ∈ as) (h2 : ∀ y ∈ as, y ≤ m) : maxF [.list (as.map nt)] = some (.val (.int (m : Int))) := by
  rw [map_nt, f_maxL (by intro e; rw [List.map_eq_nil_iff.mp e] at h; cases h), max_nt h h2]
theorem log2_small {j : Int} (h0 : 0 < j) (h : j < 9000) : j.natAbs.log2 < 9000 := by
  have := Nat.log2_le_self j.natAbs
  omega
theorem divOk {j : Int} (h0 : 0 < j) (h : j < 9000) : 0 < j ∧ j.natAbs.log2 < 9000 := ⟨h0, log2_small h0 h⟩

/-! ### loops over counts, over mapped lists -/
section
variable {g : MG} {b : M Fl} {mi : MI} {E E1 : SEnv}
theorem for_map {α : Type} {f : α → D} {as : List α} (hmi : mi E = .ok (as.map f, none) E1) (I : Nat → SEnv → Prop) (h0 : I 0 E1) (hs : ∀ (i : Nat) (hi : i < as.length) (E : SEnv), I i E → ∃ E1 E2, g (.val (f as[i])) E = some E1 ∧ (b E1 = .ok .nx E2 ∨ b E1 = .ok .ct E2) ∧ I (i + 1) E2) :
    ∃ E', mFor mi g b E = .ok .nx E' ∧ I as.length E' := by
  have := for_none (g := g) (b := b) hmi I h0 fun i hi E h => by
    have hi' : i < as.length := by simpa using hi
    have := hs i hi' E h
    simpa using this
  simpa using this
theorem for_rng {n : Nat} (hmi : mi E = .ok ((List.range n).map nt, none) E1) (I : Nat → SEnv → Prop) (h0 : I 0 E1) (hs : ∀ (i : Nat), i < n → ∀ (E : SEnv), I i E → ∃ E1 E2, g (.val (.int (i : Int))) E = some E1 ∧ (b E1 = .ok .nx E2 ∨ b E1 = .ok .ct E2) ∧ I (i + 1) E2) :
    ∃ E', mFor mi g b E = .ok .nx E' ∧ I n E' := by
  have := for_map (g := g) (b := b) hmi I h0 fun i hi E h => by
    have hi' : i < n := by simpa using hi
    have := hs i hi' E h
    simpa using this
  simpa using this
theorem for_mapOwn {α : Type} {f : α → D} {as : List α} {j : Nat} {ds : List D} (hmi : mi E = .ok (as.map f, some j) E1) (hj : E1[j]? = some (.own (.lst ds))) (I : Nat → SEnv → Prop) (h0 : I 0 (E1.set j (.lck (.lst ds)))) (hs : ∀ (i : Nat) (hi : i < as.length) (E : SEnv), I i E → ∃ E1 E2, g (.val (f as[i])) E = some E1 ∧ (b E1 = .ok .nx E2 ∨ b E1 = .ok .ct E2) ∧ I (i + 1) E2)
    (hl : ∀ E', I as.length E' → ∃ o, E'[j]? = some (.lck o)) : ∃ E' o, mFor mi g b E = .ok .nx (E'.set j (.own o)) ∧ I as.length E' ∧ E'[j]? = some (.lck o) := by
  have := for_own (g := g) (b := b) hmi hj I h0 (fun i hi E h => by
    have hi' : i < as.length := by simpa using hi
    have := hs i hi' E h
    simpa using this) (by simpa using hl)
  simpa using this
end
/-! ### comprehensions over mapped lists -/
section
variable {j : Nat} {mi : MI} {mt : M Bool} {me : M Ret} {E : SEnv}
theorem lc_map {α : Type} {f : α → D} {as : List α} (h : α → D) (hmi : mi E = .ok (as.map f, none) E) (hh : isHid E j = true) (hl : as.length ≤ 1000000)
    (hm : ∀ a ∈ as, ∃ r, me (E.set j (.val (f a))) = .ok r (E.set j (.val (f a))) ∧ take (E.set j (.val (f a))) r = some (h a, E.set j (.val (f a)))) :
    mLc [j] (st1 j) mi mYes me E = .ok (.own (.lst (as.map h))) E := by
  by_cases hne : as = []
  · subst hne
    have := lc_none (mt := mYes) (me := me) (fun d => d) (fun _ => true) hmi hh (by simp) (by intro d hd; simp at hd)
    simpa using this
  · -- the value by the item's data
    classical
    let F : D → D := fun d => if hd : ∃ a ∈ as, f a = d then h (Classical.choose hd) else d
    have hF : ∀ a ∈ as, ∃ r, me (E.set j (.val (f a))) = .ok r (E.set j (.val (f a))) ∧ take (E.set j (.val (f a))) r = some (F (f a), E.set j (.val (f a))) := fun a ha => by
      have hd : ∃ a' ∈ as, f a' = f a := ⟨a, ha, rfl⟩
      have eF : F (f a) = h (Classical.choose hd) := dif_pos hd
      obtain ⟨h1, h2⟩ := Classical.choose_spec hd
      obtain ⟨r, e1, e2⟩ := hm _ h1
      rw [h2] at e1 e2
      exact ⟨r, e1, by rw [eF]; exact e2⟩
    have q := lc_none (mt := mYes) (me := me) F (fun _ => true) hmi hh (by simpa using hl) fun d hd => by
      obtain ⟨a, ha, rfl⟩ := List.mem_map.mp hd
      obtain ⟨r, e1, e2⟩ := hF a ha
      exact ⟨r, rfl, fun _ => ⟨e1, e2⟩⟩
    rw [q]
    rw [show (as.map f).filter (fun _ => true) = as.map f from List.filter_eq_self.mpr fun _ _ => rfl, List.map_map]
    congr 3
    refine List.map_congr_left fun a ha => ?_
    obtain ⟨r, e1, e2⟩ := hF a ha
    obtain ⟨r', e3, e4⟩ := hm a ha
    rw [e1] at e3
    cases e3
    rw [e2] at e4
    exact (Prod.mk.inj (Option.some.inj e4)).1
theorem lc_mapOwn {α : Type} {f : α → D} {as : List α} {k : Nat} {ds : List D} (h : α → D) (hmi : mi E = .ok (as.map f, some k) E) (hk : E[k]? = some (.own (.lst ds))) (hh : isHid E j = true) (hl : as.length ≤ 1000000)
    (hm : ∀ a ∈ as, ∃ r, me ((E.set k (.lck (.lst ds))).set j (.val (f a))) = .ok r ((E.set k (.lck (.lst ds))).set j (.val (f a))) ∧ take ((E.set k (.lck (.lst ds))).set j (.val (f a))) r = some (h a, (E.set k (.lck (.lst ds))).set j (.val (f a)))) :
    mLc [j] (st1 j) mi mYes me E = .ok (.own (.lst (as.map h))) E := by
  classical
  let F : D → D := fun d => if hd : ∃ a ∈ as, f a = d then h (Classical.choose hd) else d
  have hF : ∀ a ∈ as, ∃ r, me ((E.set k (.lck (.lst ds))).set j (.val (f a))) = .ok r ((E.set k (.lck (.lst ds))).set j (.val (f a))) ∧ take ((E.set k (.lck (.lst ds))).set j (.val (f a))) r = some (F (f a), (E.set k (.lck (.lst ds))).set j (.val (f a))) := fun a ha => by
    have hd : ∃ a' ∈ as, f a' = f a := ⟨a, ha, rfl⟩
    have eF : F (f a) = h (Classical.choose hd) := dif_pos hd
    obtain ⟨h1, h2⟩ := Classical.choose_spec hd
    obtain ⟨r, e1, e2⟩ := hm _ h1
    rw [h2] at e1 e2
    exact ⟨r, e1, by rw [eF]; exact e2⟩
  have q := lc_own (mt := mYes) (me := me) F (fun _ => true) hmi hk hh (by simpa using hl) fun d hd => by
    obtain ⟨a, ha, rfl⟩ := List.mem_map.mp hd
    obtain ⟨r, e1, e2⟩ := hF a ha
    exact ⟨r, rfl, fun _ => ⟨e1, e2⟩⟩
  rw [q]
  rw [show (as.map f).filter (fun _ => true) = as.map f from List.filter_eq_self.mpr fun _ _ => rfl, List.map_map]
  congr 3
  refine List.map_congr_left fun a ha => ?_
  obtain ⟨r, e1, e2⟩ := hF a ha
  obtain ⟨r', e3, e4⟩ := hm a ha
  rw [e1] at e3
  cases e3
  rw [e2] at e4
  exact (Prod.mk.inj (Option.some.inj e4)).1
end
end MP

namespace MP
open PySem PySem.Spec L2

/-! ### a < b < c -/
def mChain (f g : D → D → Option Rv) (a b c : M Ret) : M Ret := fun E => (a E).bind fun r1 E1 => (b E1).bind fun r2 E2 => match dat E2 r1, dat E2 r2 with
  | some x, some y => (match f x y with
    | some (.val (.bool k)) => if k = true then (c E2).bind fun r3 E3 => op2 g E3 r2 r3 else .ok (.val (.bool false)) E2
    | _ => .no)
  | _, _ => .no
section
variable {X : Cx} {cl : Cl} {W : WX} {a b c : Expr} {pos : Pos} {ma mb mc : M Ret} {op op' : CmpOp} {r r' : R2} {f g : D → D → Option Rv}
theorem tChain_of {K : PySem.W.Frag} (hf : Op2 K r f) (hg : Op2 K r' g) (σ : St) (H : Hp) (Q : VK) (h : tM K cl W (mChain f g ma mb mc) σ H Q) : tChain r r' (tM K cl W ma) (tM K cl W mb) (tM K cl W mc) σ H Q := by
  obtain ⟨C, E, T, R, h⟩ := h
  refine ⟨C, E, T, R, (Run.bind h).imp fun r1 E1 h1 v1 H1 R1 b1 => ⟨C, E1, _, R1, (Run.bind h1).go fun r2 E2 h2 v2 H2 R2 b2 => ?_⟩⟩
  split at h2
  case h_2 => exact h2.elim
  rename_i x y e1 e2
  split at h2
  case h_2 => exact h2.elim
  rename_i k e3
  obtain ⟨F, ρ, RF⟩ := _root_.id R2
  have k1 : (T ++ [(v1, r1)] ++ [(v2, r2)])[T.length]? = some (v1, r1) := by simp
  have k2 : (T ++ [(v1, r1)] ++ [(v2, r2)])[T.length + 1]? = some (v2, r2) := by simp
  refine hf F H2 v1 v2 x y _ _ RF.fh (RF.dat k1 b1 e1) (RF.dat k2 b2 e2) e3 ⟨fun v hv => ?_, fun _ _ _ z => nomatch z⟩
  cases hv
  refine ⟨k, rfl, ?_⟩
  by_cases hk : k = true
  · rw [if_pos hk] at h2 ⊢
    refine ⟨C, E2, _, R2, ((Run.bind h2).go (T' := [(v1, r1)] ++ [(v2, r2)]) fun r3 E3 h3 => h3) |> fun z => ?_⟩
    rw [← List.append_assoc] at z
    refine z.imp fun r3 E3 h3 v3 H3 R3 b3 => ?_
    obtain ⟨y', z', rv, g1, g2, g3, p⟩ := op2_run h3
    obtain ⟨F3, ρ3, RF3⟩ := R3
    have k3 : (T ++ [(v1, r1)] ++ [(v2, r2)] ++ [(v3, r3)])[T.length + 1]? = some (v2, r2) := by simp
    have k4 : (T ++ [(v1, r1)] ++ [(v2, r2)] ++ [(v3, r3)])[T.length + 2]? = some (v3, r3) := by simp
    exact hg F3 H3 v2 v3 y' z' rv Q RF3.fh (RF3.dat k3 b2 g1) (RF3.dat k4 b3 g2) g3 (gives (T' := [(v1, r1), (v2, r2), (v3, r3)]) (by simpa using RF3) p)
  · rw [if_neg hk] at h2 ⊢
    exact h2 (.bl false) H2 (RelF.push_val (by simpa using RF.drop.drop) (.bl false)).rel trivial
theorem den_chain (hr : OpR X (compareOp op) r) (hf : Op2 X.K r f) (hr' : OpR X (compareOp op') r') (hg : Op2 X.K r' g) (ha : PE X a (tM X.K cl W ma)) (hb : PE X b (tM X.K cl W mb)) (hc : PE X c (tM X.K cl W mc)) (hm : lastMarks [op, op'] [b, c] = false := by with_unfolding_all rfl) :
    PE X (.Compare a [op, op'] [b, c] pos) (tM X.K cl W (mChain f g ma mb mc)) := PE.imp (pe_chain hr hr' ha hb hc hm) (tChain_of hf hg)
theorem den_chaint (hr : OpR X (compareOp op) r) (hf : Op2 X.K r f) (hr' : OpR X (compareOp op') r') (hg : Op2 X.K r' g) (ha : PE X a (tM X.K cl W ma)) (hb : PE X b (tM X.K cl W mb)) (hc : PE X c (tM X.K cl W mc)) (hm : lastMarks [op, op'] [b, c] = false := by with_unfolding_all rfl) :
    PT X (.Compare a [op, op'] [b, c] pos) (tMT X.K cl W (mBl (mChain f g ma mb mc))) := PT.imp (pt_chain hr hr' ha hb hc hm) fun σ H Q h => by
  obtain ⟨C, E, T, R, h⟩ := h
  have h2 := bl_run h
  exact tChain_of hf hg σ H _ ⟨C, E, T, R, h2.imp fun r1 E1 ⟨k, e1, h1⟩ v1 H1 R1 b1 => ⟨k, dat_bl R1 b1 e1, h1 H1 R1.drop⟩⟩
end

/-! ### slices -/
def mNoP : M (Option Int) := fun E => .ok none E
def mPart (m : M Ret) : M (Option Int) := fun E => (m E).bind fun r E1 => match dat E1 r with
  | some (.int i) => .ok (some i) E1
  | _ => .no
def cutA {α : Type} (xs : List α) (lo hi : Option Int) : List α := (xs.drop (HT.sIx xs.length 0 lo)).take (HT.sIx xs.length xs.length hi - HT.sIx xs.length 0 lo)
noncomputable def slF (d : D) (lo hi : Option Int) : Option Rv := match d with
  | .list ds => some (.own (.lst (cutA ds lo hi)))
  | .tuple ds => some (.val (.tuple (cutA ds lo hi)))
  | .str z => if Ok (z.length ≤ big) then some (.val (.str (cutS z lo hi))) else none
  | _ => none
noncomputable def mSl (a : M Ret) (lo hi : M (Option Int)) : M Ret := fun E => (a E).bind fun r E1 => (lo E1).bind fun l E2 => (hi E2).bind fun u E3 => match dat E3 r with
  | some d => retO (slF d l u) E3
  | none => .no
theorem cut_dps {K : PySem.W.Frag} {F : Hp} {vs : List V} {ds : List D} (h : DpAll K F vs ds) (lo hi : Option Int) : DpAll K F (cutV vs lo hi) (cutA ds lo hi) := by
  unfold cutV cutA
  rw [dps_len h]
  exact dps_take _ (dps_drop _ h)
theorem cut_whole {ds : List D} {lo hi : Option Int} (h : HT.sIx ds.length 0 lo = 0 ∧ HT.sIx ds.length ds.length hi = ds.length) : cutA ds lo hi = ds := by
  unfold cutA
  rw [h.1, h.2]
  simp
section
variable {X : Cx} {cl : Cl} {W : WX} {e lo hi st : Expr} {pos p2 : Pos} {ma m : M Ret} {ml mh ms : M (Option Int)}
theorem den_noP : PO X none (tMO X.K cl W mNoP) := PO.imp po_none fun σ H Q h => by
  obtain ⟨C, E, T, R, h⟩ := h
  exact h H R
theorem den_part (h : PE X e (tM X.K cl W m)) : PO X (some e) (tMO X.K cl W (mPart m)) := PO.imp (po_some h) fun σ H Q h => by
  obtain ⟨C, E, T, R, h⟩ := h
  refine ⟨C, E, T, R, (Run.bind h).imp fun r E1 h1 v H1 R1 b1 => ?_⟩
  split at h1
  · rename_i i e1
    obtain ⟨F, ρ, RF⟩ := R1
    exact ⟨i, dpt_int (RF.dat (k := T.length) (by simp) b1 e1), h1 H1 RF.drop.rel⟩
  · exact h1.elim
def rSlM (K : PySem.W.Frag) : V → Option Int → Option Int → Hp → VK → Prop := fun x lo hi H Q => rSlL K x lo hi H Q ∨ rSlA K x lo hi H Q ∨ rSlS x lo hi H Q
theorem sl_m : SlR X (rSlM X.K) := sl_list.or (sl_tupA.or sl_str)
theorem sl_ok {K : PySem.W.Frag} {F H : Hp} {v : V} {d : D} {lo hi : Option Int} {rv : Rv} {Q : VK} (hs : Same F H) (hd : DpT K F H v d) (e : slF d lo hi = some rv) (g : Gives K F H Q rv) : rSlM K v lo hi H Q := by
  unfold slF at e
  split at e
  · cases e
    obtain ⟨a, us, rfl, h1, h2⟩ := dpt_lst hs hd
    exact .inl ⟨a, us, rfl, h1, fun p hp => g p _ hp ⟨_, rfl, cut_dps h2 _ _⟩⟩
  · cases e
    have hd' := dp_tup' hd
    obtain ⟨a, us, rfl, h1, h2⟩ := dpt_tup hs hd
    refine .inr (.inl ⟨a, us, rfl, h1, fun hw => ?_, fun _ p hp => g.2 _ p _ rfl hp (cut_dps h2 _ _)⟩)
    rw [dps_len h2] at hw
    exact g.1 _ (by rw [cut_whole hw]; exact hd')
  · split at e
    · rename_i z hl
      cases e
      exact .inr (.inr ⟨z, dpt_str hd, big_le hl, g.str⟩)
    · cases e
  · cases e
theorem den_sl {lo hi : Option Expr} (ha : PE X e (tM X.K cl W ma)) (hl : PO X lo (tMO X.K cl W ml)) (hh : PO X hi (tMO X.K cl W mh)) : PE X (.Subscript e (.Slice lo hi none p2) pos) (tM X.K cl W (mSl ma ml mh)) := PE.imp (pe_slice sl_m ha hl hh) fun σ H Q h => by
  obtain ⟨C, E, T, R, h⟩ := h
  refine ⟨C, E, T, R, (Run.bind h).imp fun r E1 h1 v H1 R1 b1 => ⟨C, E1, _, R1, (Run.bind h1).go fun l E2 h2 H2 R2 => ⟨C, E2, _, R2, (Run.bind h2).go fun u E3 h3 H3 R3 => ?_⟩⟩⟩
  split at h3
  · rename_i d e1
    obtain ⟨rv, e2, p⟩ := retO_run h3
    obtain ⟨F, ρ, RF⟩ := R3
    exact sl_ok RF.fh (RF.dat (k := T.length) (by simp) b1 e1) e2 (gives RF p)
  · exact h3.elim
/-! ### slices with a step, of lists -/
def pickA {α : Type} (xs : List α) (lo hi st : Option Int) : List α := (sliceRange (sliceBounds lo hi st xs.length).1 (sliceBounds lo hi st xs.length).2.1 (sliceBounds lo hi st xs.length).2.2).filterMap fun i => xs[i]?
theorem pick_vals {xs : List V} {us : List Value} (r : Vals xs us) : ∀ is : List Nat, Vals (is.filterMap fun i => xs[i]?) (is.filterMap fun i => us[i]?)
  | [] => .nil
  | i :: is => by
    rw [List.filterMap_cons, List.filterMap_cons]
    cases q : xs[i]? with
    | none =>
      have hn : us[i]? = none := by
        rw [List.getElem?_eq_none_iff] at q ⊢
        rw [← r.length]; exact q
      rw [hn]; exact pick_vals r is
    | some x =>
      obtain ⟨u, hu, ru⟩ := r.get q
      rw [hu]; exact .cons ru (pick_vals r is)
theorem pick_dps {K : PySem.W.Frag} {F : Hp} {vs : List V} {ds : List D} (h : DpAll K F vs ds) : ∀ is : List Nat, DpAll K F (is.filterMap fun i => vs[i]?) (is.filterMap fun i => ds[i]?)
  | [] => .nil
  | i :: is => by
    rw [List.filterMap_cons, List.filterMap_cons]
    cases q : ds[i]? with
    | none =>
      have hn : vs[i]? = none := by
        rw [List.getElem?_eq_none_iff] at q ⊢
        rw [dps_len h]; exact q
      rw [hn]; exact pick_dps h is
    | some d =>
      obtain ⟨v, hv, rv⟩ := dps_get h q
      rw [hv]; exact .cons rv (pick_dps h is)
def rSlStep (K : PySem.W.Frag) : V → Option Int → Option Int → Option Int → Hp → VK → Prop := fun x lo hi st H Q => ∃ a xs, x = .ref a ∧ SqL K H a xs ∧ st ≠ some 0 ∧ (pickA xs lo hi st).length ≤ sizeLine ∧ ∀ p, H p = none → Q (.ref p) (upd H p (.lst (pickA xs lo hi st)))
theorem pe_sliceS {te : TE} {tl th ts : TO} {lo hi st : Option Expr} (he : PE X e te) (hl : PO X lo tl) (hu : PO X hi th) (hst : PO X st ts) (hsub : ∀ o i, subscripted (.Slice lo hi st p2) false o i = operate [o, i] (getItem o i) := by intros; with_unfolding_all rfl) :
    PE X (.Subscript e (.Slice lo hi st p2) pos) (fun σ H Q => te σ H fun x H1 => tl σ H1 fun l H2 => th σ H2 fun u H3 => ts σ H3 fun k H4 => rSlStep X.K x l u k H4 Q) := by
  refine ⟨fun pins s σ H Q I h => ?_⟩
  refine PyProof.Rows.Subscript_ (thn (he.run pins s σ H _ I h) fun v s1 ⟨x, H1, I1, r1, q1⟩ => ?_)
  refine wpAny_Slice (thn (hl.run pins s1 σ H1 _ I1 q1) fun vl s2 ⟨l, H2, I2, pl, q2⟩ => thn (hu.run pins s2 σ H2 _ I2 q2) fun vu s3 ⟨u, H3, I3, pu, q3⟩ => thn (hst.run pins s3 σ H3 _ I3 q3) fun vk s4 ⟨k, H4, I4, pk, q4⟩ => ?_)
  obtain ⟨a, xs, rfl, hx, h0, hz2, q⟩ := q4
  cases r1
  have I5 : Inv X pins σ H4 { s4 with heap := s4.heap.push { cls := .type "slice", data := .fields #[vl, vu, vk] } } := I4.kept (t' := s4.toks) fun b ob q => Heap.get?_push_of_some _ q
  obtain ⟨its, r, ht, hz⟩ := I5.list hx
  have hlen := r.length
  have hs : ({ s4 with heap := s4.heap.push { cls := .type "slice", data := .fields #[vl, vu, vk] } } : Shared).heap.IsSliceOf s4.heap.objs.size vl vu vk := Heap.IsSliceOf.new ..
  have hg : wpAny (model X.prog X.w) X.A (getItem (.ref a) (.ref s4.heap.objs.size)) (EP X pins σ Q) X.xe { s4 with heap := s4.heap.push { cls := .type "slice", data := .fields #[vl, vu, vk] } } := by
    refine wpAny_getItem_list_slice ht.isList hs pl pu pk h0 ?_ (by rw [List.size_toArray] <;> omega)
    have e : slicePick its.toArray l u k = ((sliceRange (sliceBounds l u k its.length).1 (sliceBounds l u k its.length).2.1 (sliceBounds l u k its.length).2.2).filterMap fun i => its[i]?).toArray := by
      unfold slicePick
      simp
    rw [e]
    refine ⟨.ref _, _, I5.laid (t' := s4.toks) (o := .lst (pickA xs l u k)) (fun b ob q => Heap.get?_push_of_some _ q) (Nat.le_refl _) ?_, rfl, q _ (I5.hok.fresh (Nat.le_refl _))⟩
    refine ⟨hz2, _, 0, ?_, Heap.get?_push_size _ rfl⟩
    unfold pickA
    rw [hlen]
    exact pick_vals r _
  show wpAny (model X.prog X.w) X.A (PyProof.Rows.subscriptTail e (.Slice lo hi st p2) (.ref a) (.ref s4.heap.objs.size)) (EP X pins σ Q) X.xe { s4 with heap := s4.heap.push { cls := .type "slice", data := .fields #[vl, vu, vk] } }
  exact PyProof.Rows.tail_any (ops := [.ref a, .ref s4.heap.objs.size]) ht.isList.typeIs slot_list_getitem.lookup hg (hsub _ _)
end
noncomputable def slSF (d : D) (lo hi st : Option Int) : Option Rv := match d with
  | .list ds => if Ok (st ≠ some 0 ∧ (pickA ds lo hi st).length ≤ big) then some (.own (.lst (pickA ds lo hi st))) else none
  | _ => none
noncomputable def mSlS (a : M Ret) (lo hi st : M (Option Int)) : M Ret := fun E => (a E).bind fun r E1 => (lo E1).bind fun l E2 => (hi E2).bind fun u E3 => (st E3).bind fun k E4 => match dat E4 r with
  | some d => retO (slSF d l u k) E4
  | none => .no
section
variable {X : Cx} {cl : Cl} {W : WX} {e : Expr} {pos p2 : Pos} {ma m : M Ret} {ml mh ms : M (Option Int)} {lo hi st : Option Expr}
theorem den_slS (ha : PE X e (tM X.K cl W ma)) (hl : PO X lo (tMO X.K cl W ml)) (hh : PO X hi (tMO X.K cl W mh)) (hst : PO X st (tMO X.K cl W ms)) (hsub : ∀ o i, subscripted (.Slice lo hi st p2) false o i = operate [o, i] (getItem o i) := by intros; with_unfolding_all rfl) :
    PE X (.Subscript e (.Slice lo hi st p2) pos) (tM X.K cl W (mSlS ma ml mh ms)) := PE.imp (pe_sliceS ha hl hh hst hsub) fun σ H Q h => by
  obtain ⟨C, E, T, R, h⟩ := h
  refine ⟨C, E, T, R, (Run.bind h).imp fun r E1 h1 v H1 R1 b1 => ⟨C, E1, _, R1, (Run.bind h1).go fun l E2 h2 H2 R2 => ⟨C, E2, _, R2, (Run.bind h2).go fun u E3 h3 H3 R3 => ⟨C, E3, _, R3, (Run.bind h3).go fun k E4 h4 H4 R4 => ?_⟩⟩⟩⟩
  split at h4
  · rename_i d e1
    obtain ⟨rv, e2, p⟩ := retO_run h4
    obtain ⟨F, ρ, RF⟩ := R4
    have hd := RF.dat (k := T.length) (by simp) b1 e1
    unfold slSF at e2
    split at e2
    · split at e2
      · rename_i ds hk
        cases e2
        obtain ⟨a, us, rfl, g1, g2⟩ := dpt_lst RF.fh hd
        have g3 : DpAll X.K F (pickA us l u k) (pickA ds l u k) := by
          unfold pickA
          rw [dps_len g2]
          exact pick_dps g2 _
        refine ⟨a, us, rfl, g1, hk.1, by rw [dps_len g3]; exact big_le hk.2, fun p' hp => ?_⟩
        exact (gives (rv := .own (.lst (pickA ds l u k))) RF p) p' _ hp ⟨_, rfl, g3⟩
      · cases e2
    · cases e2
  · exact h4.elim
end

/-! ### x op= e -/
def addI (i j : Int) : Int := i + j
def subI (i j : Int) : Int := i - j
def mAug (i : Nat) (f : Int → Int → Int) (me : M Ret) : M Fl := fun E => match E[i]? with
  | some (.val (.int a)) => (me E).bind fun r E1 => match dat E1 r with
    | some (.int b) => (match mStore i (.val (.int (f a b))) E1 with
      | some E2 => .ok .nx E2
      | none => .no)
    | _ => .no
  | _ => .no
section
variable {X : Cx} {cl : Cl} {W : WX} {e : Expr} {pos p2 : Pos} {me mi : M Ret} {op : Operator}
theorem den_aug (i : Nat) {x : Str} {f : Int → Int → Int} (hN : X.N.Nodup) (ho : PIp X op (ipI f)) (he : PE X e (tM X.K cl W me)) (hi : X.N[i]? = some x := by rfl) (hx : Loc X.env.scope x := by first | exact Or.inl rfl | exact Or.inr rfl) (hf : X.fn x = true ∨ X.env.scope.names.lookup x = some .local := by first | exact .inl rfl | exact .inr rfl) :
    PS X (.AugAssign (.Name x p2) op e pos) (tMS X.K cl W (mAug i f me)) := PS.imp (ps_aug hN hi hx he ho hf) fun D σ H h => by
  obtain ⟨C, E, T, R, h⟩ := h
  unfold mAug at h
  split at h
  · rename_i a e0
    obtain ⟨F0, ρ0, RF0⟩ := _root_.id R
    obtain ⟨w, hw⟩ := slot_there RF0 e0
    obtain ⟨y, rfl, hy⟩ := RF0.sl i _ _ hw e0
    cases hy
    refine ⟨.int a, hw, C, E, T, R, (RunS.bind h).run fun r E1 h1 v1 H1 R1 b1 => ?_⟩
    split at h1
    · rename_i b e1
      split at h1
      · rename_i E2 e2
        obtain ⟨F, ρ, RF⟩ := R1
        have hv := dpt_int (RF.dat (k := T.length) (by simp) b1 e1)
        obtain ⟨F', ρ', _, R'⟩ := (RF.drop.push_val (.int (f a b))).store trivial e2
        exact ⟨a, b, rfl, hv, h1 _ _ R'.rel⟩
      · exact h1.elim
    · exact h1.elim
  · exact h.elim
end
theorem ip_addI {X : Cx} : PIp X .Add (ipI addI) := ip_add
theorem ip_subI {X : Cx} : PIp X .Sub (ipI subI) := ip_sub

/-! ### xs[i] = v, xs[i] += v, of a list of one's own -/
def setAt (j : Nat) (s : Option Slot) (k : Int) (d : D) (E : SEnv) : Option SEnv := match s with
  | some (.own (.lst ds)) => (ixN ds.length k).map fun n => E.set j (.own (.lst (ds.set n d)))
  | some (.lnt (.lst ds)) => (ixN ds.length k).map fun n => E.set j (.lnt (.lst (ds.set n d)))
  | _ => none
def gSubL (j : Nat) (mi : M Ret) : MG := fun r E => if isLst E j = true then (match mi E with
  | .ok ri E1 => (match dat E1 ri, take E1 r with
    | some (.int k), some (d, E2) => setAt j E2[j]? k d E2
    | _, _ => none)
  | _ => none) else none
section
variable {X : Cx} {cl : Cl} {W : WX} {e i : Expr} {pos p2 : Pos} {me mi : M Ret} {op : Operator}
theorem set_run {K : PySem.W.Frag} {C : Ctx} {F : Hp} {ρ : Own} {T : List (V × Ret)} {σ : St} {H : Hp} {E E' : SEnv} {j : Nat} {v x : V} {k : Int} {d : D} {Q : Hp → Prop} (R : RelF K cl C F ρ E T σ H) (b : σ[j]? = some (some v)) (hx : Dp K F x d) (h : setAt j E[j]? k d E = some E')
    (q : ∀ H', Rel K cl C E' T σ H' → Q H') : rSetL v (.int k) x H Q := by
  unfold setAt at h
  split at h
  · rename_i ds e
    obtain ⟨n, e1, rfl⟩ := Option.map_eq_some_iff.mp h
    obtain ⟨p, z1, ⟨ho, z2, ⟨us, rfl, z3⟩, z4, z5⟩, z6⟩ := R.sl j _ _ b e
    cases z1
    exact ⟨p, us, k, n, rfl, rfl, z2, by rw [dps_len z3]; exact e1, q _ (R.mut_own e b (o' := .lst (ds.set n d)) ⟨_, rfl, dps_set hx n z3⟩).rel⟩
  · rename_i ds e
    obtain ⟨n, e1, rfl⟩ := Option.map_eq_some_iff.mp h
    obtain ⟨p, z1, ⟨ho, z2, ⟨us, rfl, z3⟩, z4, z5⟩, z6⟩ := R.sl j _ _ b e
    cases z1
    exact ⟨p, us, k, n, rfl, rfl, z2, by rw [dps_len z3]; exact e1, q _ (R.mut_lnt e b (o' := .lst (ds.set n d)) ⟨_, rfl, dps_set hx n z3⟩).rel⟩
  · cases h
theorem lst_there {K : PySem.W.Frag} {C : Ctx} {F : Hp} {ρ : Own} {T : List (V × Ret)} {σ : St} {H : Hp} {E : SEnv} {j : Nat} (R : RelF K cl C F ρ E T σ H) (h : isLst E j = true) : ∃ v, σ[j]? = some (some v) := by
  obtain ⟨ls, hl⟩ := isLst_at h
  obtain ⟨w, hw⟩ : ∃ w, σ[j]? = some w := by rcases hl with e | e <;> exact slot_there R e
  rcases hl with e | e
  · obtain ⟨p, rfl, _⟩ := R.sl j _ _ hw e; exact ⟨_, hw⟩
  · obtain ⟨p, rfl, _⟩ := R.sl j _ _ hw e; exact ⟨_, hw⟩
theorem den_tsub (j : Nat) {x : Str} (hi : PE X i (tM X.K cl W mi)) (hN : X.N[j]? = some x := by rfl) (hv : Vis X.env.scope x := by first | exact Or.inl rfl | exact Or.inr (Or.inl rfl) | exact Or.inr (Or.inr rfl)) (hd : (x == ("__debug__" : Str)) = false := by decide) (hcd : (x == ("__classdict__" : Str)) = false := by decide)
    (ha : ∀ v, assign (.Subscript (.Name x p2) i pos) X.env v = (do
      let ov ← holding [v] (eval (.Name x p2) X.env)
      let iv ← holding [v, ov] (eval i X.env)
      standAt pos
      holding [v, ov, iv] (setItem ov iv v)
      release [v, ov, iv] []) := by intro _; rfl) : PG X (.Subscript (.Name x p2) i pos) (tMG X.K cl (gSubL j mi)) := PG.imp (pg_sub (pe_var hN hv hd hcd) hi set_list ha) fun v σ H Q h => by
  obtain ⟨C, E, T, r, R, b, E', e, h⟩ := h
  unfold gSubL at e
  split at e
  case isFalse => cases e
  rename_i hg
  obtain ⟨F0, ρ0, RF0⟩ := _root_.id R
  obtain ⟨w, hw⟩ := lst_there RF0 hg
  refine ⟨w, hw, C, E, _, R, ?_⟩
  cases q : mi E with
  | no => rw [q] at e; cases e
  | ex x E1 => rw [q] at e; cases e
  | ok ri E1 =>
    rw [q] at e
    simp only at e
    split at e
    case h_2 => cases e
    rename_i k d E2 e1 e2
    intro y H1 R1 b1
    obtain ⟨F, ρ, RF⟩ := R1
    have hk := dpt_int (RF.dat (k := T.length + 1) (v := y) (r := ri) (by simp) b1 e1)
    subst hk
    obtain ⟨F', f', RT, hd⟩ := RelF.take (T := T) (T2 := [(V.int k, ri)]) (by simpa using RF) b e2
    exact set_run RT.drop hw hd e fun H' R' => h σ H' R'
def rGetL (K : PySem.W.Frag) : V → V → Hp → VK → Prop := fun x y H Q => ∃ p xs i v, x = .ref p ∧ y = .int i ∧ SqL K H p xs ∧ atI xs i = some v ∧ Q v H
theorem get_list : PGet X (rGetL X.K) := by
  intro pins s σ H x y v u Q I rx ry h
  obtain ⟨p, xs, i, z, rfl, rfl, hq, he, q⟩ := h
  cases rx
  obtain ⟨t, rfl⟩ := ry
  obtain ⟨its, r, pl, hz⟩ := I.list hq
  obtain ⟨j, h1, h2, h3, h4, h5⟩ := atI_get he
  obtain ⟨w, ew, rw'⟩ := r.get h2
  have hl := r.length
  have hn := line63
  have fin : EP X pins σ Q w s := ⟨z, H, I, rw', q⟩
  by_cases h0 : 0 ≤ i
  · have hj : i.toNat = j := by
      rw [seqIndex_of h0 h5] at h1
      exact Option.some.inj h1
    exact wpAny_getItem_list pl.isList h0 (by omega) (by rw [hj]; simpa using ew) fin
  · have hj : (i + (its.toArray.size : Int)).toNat = j := by
      rw [seqIndex_neg (by omega) h4] at h1
      rw [List.size_toArray, ← hl]
      exact Option.some.inj h1
    exact wpAny_getItem_list_neg pl.isList (by omega) (by rw [List.size_toArray] <;> omega) (by omega) (by rw [hj]; simpa using ew) fin
end
def mAugS (j : Nat) (f : Int → Int → Int) (mi me : M Ret) : M Fl := fun E => if isLst E j = true then (mi E).bind fun ri E1 => (match dat E1 ri, dat E1 (.bor j) with
  | some (.int k), some (.list ds) => (match atI ds k with
    | some (.int a) => (me E1).bind fun rv E2 => (match dat E2 rv with
      | some (.int b) => (match setAt j E2[j]? k (.int (f a b)) E2 with
        | some E3 => .ok .nx E3
        | none => .no)
      | _ => .no)
    | _ => .no)
  | _, _ => .no) else .no
section
variable {X : Cx} {cl : Cl} {W : WX} {e i : Expr} {pos p2 p3 : Pos} {me mi : M Ret} {op : Operator}
theorem den_augS (j : Nat) {x : Str} {f : Int → Int → Int} (ho : PIp X op (ipI f)) (hi : PE X i (tM X.K cl W mi)) (he : PE X e (tM X.K cl W me)) (hN : X.N[j]? = some x := by rfl) (hv : Vis X.env.scope x := by first | exact Or.inl rfl | exact Or.inr (Or.inl rfl) | exact Or.inr (Or.inr rfl)) (hd : (x == ("__debug__" : Str)) = false := by decide) (hcd : (x == ("__classdict__" : Str)) = false := by decide)
    (ha : ∀ ov iv new, augStore i ov iv new = (do holding [new, ov, iv] (setItem ov iv new); release [new, ov, iv] []; pure .next) := by intros; rfl) : PS X (.AugAssign (.Subscript (.Name x p2) i p3) op e pos) (tMS X.K cl W (mAugS j f mi me)) :=
  PS.imp (ps_augS (pe_var hN hv hd hcd) hi get_list he ho set_list ha) fun D σ H h => by
    obtain ⟨C, E, T, R, h⟩ := h
    unfold mAugS at h
    split at h
    case isFalse => exact h.elim
    rename_i hg
    obtain ⟨F0, ρ0, RF0⟩ := _root_.id R
    obtain ⟨w, hw⟩ := lst_there RF0 hg
    refine ⟨w, hw, C, E, T, R, (RunS.bind h).run fun ri E1 h1 y H1 R1 b1 => ?_⟩
    split at h1
    case h_2 => exact h1.elim
    rename_i k ds e1 e2
    split at h1
    case h_2 => exact h1.elim
    rename_i a e3
    obtain ⟨F1, ρ1, RF1⟩ := _root_.id R1
    have hk := dpt_int (RF1.dat (k := T.length) (v := y) (r := ri) (by simp) b1 e1)
    subst hk
    have hlst := (RF1.push_bor (v := w) (i := j)).dat (k := T.length + 1) (v := w) (r := .bor j) (by simp) hw e2
    obtain ⟨p, us, rfl, g1, g2⟩ := dpt_lst RF1.fh hlst
    obtain ⟨z, g3, g4⟩ := atI_dps g2 e3
    cases g4
    refine ⟨p, us, k, .int a, rfl, rfl, g1, g3, C, E1, _, R1, ((RunS.bind h1).run (σ := σ) fun rv E2 h2 => h2).go fun rv E2 h2 y2 H2 R2 b2 => ?_⟩
    split at h2
    case h_2 => exact h2.elim
    rename_i b e4
    split at h2
    case h_2 => exact h2.elim
    rename_i E3 e5
    obtain ⟨F2, ρ2, RF2⟩ := R2
    have hb := dpt_int (RF2.dat (k := T.length + 1) (v := y2) (r := rv) (by simp) b2 e4)
    subst hb
    refine ⟨a, b, rfl, rfl, ?_⟩
    exact set_run (RelF.drop (T' := [(V.int k, ri), (V.int b, rv)]) (by simpa using RF2)) hw (.int _) e5 fun H' R' => h2 σ H' R'
end

/-! ### methods that read a list -/
def BmR (K : PySem.W.Frag) (r : V → List V → Hp → VK → Prop) (f : D → List D → Option Rv) : Prop :=
  ∀ (F H : Hp) (x : V) (xs : List V) (a : D) (as : List D) (rv : Rv) (Q : VK), Same F H → DpT K F H x a → DpTs K F H xs as → f a as = some rv → Gives K F H Q rv → r x xs H Q
def isL (d : Option D) : Bool := match d with
  | some (.list _) => true
  | _ => false
def mBmL (f : D → List D → Option Rv) (a : M Ret) (as : M (List Ret)) : M Ret := fun E => (a E).bind fun r E1 => if isL (dat E1 r) = true then (as E1).bind fun rs E2 => (match dat E2 r, dats E2 rs with
  | some d, some ds => retO (f d ds) E2
  | _, _ => .no) else .no
section
variable {X : Cx} {cl : Cl} {W : WX} {o e : Expr} {es : List Expr} {apos cpos : Pos} {ma : M Ret} {ms : M (List Ret)}
theorem den_bmL {name : Str} {id : String} {r : V → List V → Hp → VK → Prop} {f : D → List D → Option Rv} (slot : PySem.Slot "list" name id) (hty : typeOf (.builtin id) = pure (.type "method_descriptor")) (hm : MtR X id r) (hf : BmR X.K r f) (ho : PE X o (tM X.K cl W ma)) (ha : PA X (e :: es) (tMA X.K cl W ms))
    (pa : PlainAttrs "list" := by exact F.plainAttrs_list) (hbase : attributeBase o name X.env (eval o X.env) = eval o X.env := by rfl)
    (hfew : ((backTo cpos (starEach (e :: es) X.env)).all (fun x => !x.1) && (backToKw cpos (keywordEach [] X.env)).all (fun x => x.1.isSome)
      && decide ((e :: es).length + ([] : List Keyword).length + (if ([] : List Keyword).isEmpty then 0 else 1) < 30)) = true := by rfl)
    (hline : (apos.endLine == cpos.line) = true := by rfl) (hs : starEach (e :: es) X.env = (false, eval e X.env) :: starEach es X.env := by rfl) (hplain : (backTo cpos (starEach es X.env)).any (·.1) = false := by rfl) :
    PE X (.Call (.Attribute o name apos) (e :: es) [] cpos) (tM X.K cl W (mBmL f ma ms)) := PE.imp (pe_bm pa slot hty hm ho ha hbase hfew hline hs hplain) fun σ H Q h => by
  obtain ⟨C, E, T, R, h⟩ := h
  refine ⟨C, E, T, R, (Run.bind h).imp fun r1 E1 h1 v1 H1 R1 b1 => ?_⟩
  split at h1
  case isFalse => exact h1.elim
  rename_i hg
  obtain ⟨F1, ρ1, RF1⟩ := _root_.id R1
  have ht : tyV X.K "list" v1 H1 := by
    unfold isL at hg
    split at hg
    · rename_i ds ed
      obtain ⟨a, us, rfl, g1, g2⟩ := dpt_lst RF1.fh (RF1.dat (k := T.length) (by simp) b1 ed)
      exact .inl ⟨rfl, us, g1⟩
    · cases hg
  refine ⟨ht, C, E1, _, R1, (Run.bind h1).go fun rs E2 h2 vs H2 R2 b2 => ?_⟩
  split at h2
  · rename_i d ds e1 e2
    obtain ⟨rv, e3, p⟩ := retO_run h2
    obtain ⟨F, ρ, RF⟩ := R2
    have hz : (T ++ [(v1, r1)] ++ vs.zip rs)[T.length]? = some (v1, r1) := by simp
    exact hf F H2 v1 vs d ds rv Q RF.fh (RF.dat hz b1 e1) (RF.dats rfl b2 e2) e3 (gives (T' := [(v1, r1)] ++ vs.zip rs) (by simpa using RF) p)
  · exact h2.elim
end
/-- the place of the first one that is the same -/
def placeD (x : D) : List D → Option Nat
  | [] => none
  | d :: ds => if eqD d x = true then some 0 else (placeD x ds).map (· + 1)
theorem placeD_spec {x : D} : ∀ {ds : List D} {j : Nat}, placeD x ds = some j → (∃ d, ds[j]? = some d ∧ eqD d x = true) ∧ ∀ (m : Nat) (d : D), m < j → ds[m]? = some d → eqD d x = false
  | [], j, h => by cases h
  | d :: ds, j, h => by
    unfold placeD at h
    split at h
    · rename_i e; cases h; exact ⟨⟨d, rfl, e⟩, fun m _ hm => absurd hm (Nat.not_lt_zero _)⟩
    · rename_i e
      obtain ⟨j', h1, rfl⟩ := Option.map_eq_some_iff.mp h
      obtain ⟨⟨d', h2, h3⟩, h4⟩ := placeD_spec h1
      refine ⟨⟨d', by simpa using h2, h3⟩, fun m d'' hm hd => ?_⟩
      cases m with
      | zero => simp at hd; subst hd; simpa using e
      | succ m => exact h4 m d'' (by omega) (by simpa using hd)
noncomputable def indexF : D → List D → Option Rv := fun d as => match d, as with
  | .list ds, [x] => if Ok (flatD x = true ∧ ds.all flatD = true) then (placeD x ds).map fun j => .val (.int (j : Nat)) else none
  | _, _ => none
theorem index_ok {K : PySem.W.Frag} : BmR K (rIndex K) indexF := fun F H x xs a as rv Q hs ha hb e g => by
  unfold indexF at e
  split at e
  · split at e
    · rename_i hl
      obtain ⟨j, e1, rfl⟩ := Option.map_eq_some_iff.mp e
      obtain ⟨p, us, rfl, h1, h2⟩ := dpt_lst hs ha
      obtain ⟨y, rfl, hy⟩ := dpts1 hb
      have hy' := flat_dpt hy hl.1
      obtain ⟨⟨d, g1, g2⟩, g3⟩ := placeD_spec e1
      obtain ⟨v, g4, g5⟩ := dps_get h2 g1
      refine ⟨p, us, y, j, v, rfl, rfl, h1, flat_dp hy' hl.1, flat_dps h2 hl.2, g4, ?_, fun m z hm hz => ?_, g.int⟩
      · rw [eq_dp g5 hy' (List.all_eq_true.mp hl.2 _ (List.mem_of_getElem? g1)) hl.1]; exact g2
      · obtain ⟨d', g6, g7⟩ := dps_getV h2 hz
        rw [eq_dp g7 hy' (List.all_eq_true.mp hl.2 _ (List.mem_of_getElem? g6)) hl.1]
        exact g3 m d' hm g6
    · cases e
  · cases e
/-! ### enumerate of a list -/
def enumD : Nat → List D → List D
  | _, [] => []
  | i, d :: ds => .tuple [.int (i : Nat), d] :: enumD (i + 1) ds
theorem enumD_len : ∀ (i : Nat) (ds : List D), (enumD i ds).length = ds.length
  | _, [] => rfl
  | i, d :: ds => congrArg (· + 1) (enumD_len (i + 1) ds)
theorem enumD_get : ∀ (ds : List D) (i k : Nat) (x : D), (enumD i ds)[k]? = some x → ∃ d, ds[k]? = some d ∧ x = .tuple [.int ((i + k : Nat) : Int), d]
  | [], i, k, x, h => by simp [enumD] at h
  | d :: ds, i, 0, x, h => by simp [enumD] at h; exact ⟨d, rfl, h.symm⟩
  | d :: ds, i, k + 1, x, h => by
    have h' : (enumD (i + 1) ds)[k]? = some x := by simpa [enumD] using h
    obtain ⟨d', h1, h2⟩ := enumD_get ds (i + 1) k x h'
    exact ⟨d', by simpa using h1, by rw [h2]; congr 3; omega⟩
theorem walks_enum {K : PySem.W.Frag} {F : Hp} {a : Addr} {xs : List V} {ds : List D} (h : DpAll K F xs ds) : Walks K F (Ite K a) (enumD 0 ds) (fun H => SqL K H a xs) where
  goes := fun i H hi g => ⟨xs, xs[i]'(by rw [dps_len h, ← enumD_len 0 ds]; exact hi), g, List.getElem?_eq_getElem _⟩
  stops := fun H g => ⟨xs, g, by rw [dps_len h, ← enumD_len 0 ds]; exact Nat.le_refl _⟩
  yields := fun i d H x H' e g y => by
    obtain ⟨T, z, rfl, hn, rfl, y⟩ := y
    obtain ⟨d', e1, rfl⟩ := enumD_get ds 0 i d e
    obtain ⟨v, e2, h2⟩ := dps_get h e1
    have := (y xs g).symm.trans e2
    cases this
    exact .inr ⟨T, [.int (i : Nat), z], [.int (i : Nat), d'], by rw [Nat.zero_add], rfl, hn, rfl, .cons (.int _) (.cons h2 .nil)⟩
/-- the items of an argument that is a list, not one's own by a name -/
def mEnum (ms : M (List Ret)) : MI := fun E => (ms E).bind fun rs E1 => match takes E1 rs with
  | some ([.list ds], E2) => .ok (enumD 0 ds, none) E2
  | _ => .no
section
variable {X : Cx} {cl : Cl} {W : WX} {e : Expr} {p pos tpos : Pos} {elts : List Expr} {kk : Nat} {ms : M (List Ret)}
theorem den_enum (hg : Gl X "enumerate") (hm : X.mg "enumerate" = none) (ha : PA X [e] (tMA X.K cl W ms)) (hs : starEach [e] X.env = [(false, eval e X.env)] := by rfl) :
    PI X (.Tuple elts kk tpos) (.Call (.Name "enumerate" p) [e] [] pos) (tMI X.K cl W (mEnum ms)) := PI.imp (pi_enum hg hm ha hs) fun σ H R h => by
  obtain ⟨C, E, T, R0, h⟩ := h
  refine ⟨C, E, T, R0, (Run.bind h).imp fun rs E1 h1 vs H1 R1 b1 => ?_⟩
  split at h1
  · rename_i ds E2 e1
    obtain ⟨F, ρ, RF⟩ := R1
    obtain ⟨F2, f2, R2, d2⟩ := RF.takes b1 e1
    obtain ⟨v, rfl, hv⟩ := dps1 d2
    have ⟨a, us, ev, g1, g2⟩ : ∃ a us, v = .ref a ∧ SqL X.K F2 a us ∧ DpAll X.K F2 us ds := by
      cases hv with
      | lst g1 g2 => exact ⟨_, _, rfl, g1, g2⟩
    subst ev
    exact ⟨a, us, rfl, L2.Same.seq R2.fh g1, h1 _ H1 F2 ρ _ R2 (walks_enum g2) (fun F' H'' e1 e2 _ => L2.Same.seq (L2.Same.trans e1 e2) g1) (fun _ z => nomatch z)⟩
  · exact h1.elim
end
end MP

namespace MP
open PySem PySem.Spec L2

/-! ## plain laws of the further terms -/
section
variable (E : SEnv)
@[simp] theorem e_chain (f g : D → D → Option Rv) (a b c : M Ret) : mChain f g a b c E = (a E).bind fun r1 E1 => (b E1).bind fun r2 E2 => match dat E2 r1, dat E2 r2 with
  | some x, some y => (match f x y with
    | some (.val (.bool k)) => if k = true then (c E2).bind fun r3 E3 => op2 g E3 r2 r3 else .ok (.val (.bool false)) E2
    | _ => .no)
  | _, _ => .no := rfl
@[simp] theorem e_noP : mNoP E = .ok none E := rfl
@[simp] theorem e_part (m : M Ret) : mPart m E = (m E).bind fun r E1 => match dat E1 r with
  | some (.int i) => .ok (some i) E1
  | _ => .no := rfl
@[simp] theorem e_sl (a : M Ret) (lo hi : M (Option Int)) : mSl a lo hi E = (a E).bind fun r E1 => (lo E1).bind fun l E2 => (hi E2).bind fun u E3 => match dat E3 r with
  | some d => retO (slF d l u) E3
  | none => .no := rfl
@[simp] theorem e_slS (a : M Ret) (lo hi st : M (Option Int)) : mSlS a lo hi st E = (a E).bind fun r E1 => (lo E1).bind fun l E2 => (hi E2).bind fun u E3 => (st E3).bind fun k E4 => match dat E4 r with
  | some d => retO (slSF d l u k) E4
  | none => .no := rfl
@[simp] theorem e_aug (i : Nat) (f : Int → Int → Int) (me : M Ret) : mAug i f me E = match E[i]? with
  | some (.val (.int a)) => (me E).bind fun r E1 => match dat E1 r with
    | some (.int b) => (match mStore i (.val (.int (f a b))) E1 with
      | some E2 => .ok .nx E2
      | none => .no)
    | _ => .no
  | _ => .no := rfl
@[simp] theorem e_augS (j : Nat) (f : Int → Int → Int) (mi me : M Ret) : mAugS j f mi me E = if isLst E j = true then (mi E).bind fun ri E1 => (match dat E1 ri, dat E1 (.bor j) with
  | some (.int k), some (.list ds) => (match atI ds k with
    | some (.int a) => (me E1).bind fun rv E2 => (match dat E2 rv with
      | some (.int b) => (match setAt j E2[j]? k (.int (f a b)) E2 with
        | some E3 => .ok .nx E3
        | none => .no)
      | _ => .no)
    | _ => .no)
  | _, _ => .no) else .no := rfl
@[simp] theorem e_setAt (j : Nat) (ds : List D) (k : Int) (d : D) : setAt j (some (.own (.lst ds))) k d E = (ixN ds.length k).map fun n => E.set j (.own (.lst (ds.set n d))) := rfl
@[simp] theorem e_setAtl (j : Nat) (ds : List D) (k : Int) (d : D) : setAt j (some (.lnt (.lst ds))) k d E = (ixN ds.length k).map fun n => E.set j (.lnt (.lst (ds.set n d))) := rfl
@[simp] theorem e_gSubL (j : Nat) (mi : M Ret) (r : Ret) : gSubL j mi r E = if isLst E j = true then (match mi E with
  | .ok ri E1 => (match dat E1 ri, take E1 r with
    | some (.int k), some (d, E2) => setAt j E2[j]? k d E2
    | _, _ => none)
  | _ => none) else none := rfl
@[simp] theorem e_bmL (f : D → List D → Option Rv) (a : M Ret) (as : M (List Ret)) : mBmL f a as E = (a E).bind fun r E1 => if isL (dat E1 r) = true then (as E1).bind fun rs E2 => (match dat E2 r, dats E2 rs with
  | some d, some ds => retO (f d ds) E2
  | _, _ => .no) else .no := rfl
@[simp] theorem e_isL (ds : List D) : isL (some (.list ds)) = true := rfl
@[simp] theorem e_enum (ms : M (List Ret)) : mEnum ms E = (ms E).bind fun rs E1 => match takes E1 rs with
  | some ([.list ds], E2) => .ok (enumD 0 ds, none) E2
  | _ => .no := rfl
end
@[simp] theorem f_addI' (i j : Int) : addI i j = i + j := rfl
@[simp] theorem f_subI' (i j : Int) : subI i j = i - j := rfl
@[simp] theorem f_slL (ds : List D) (lo hi : Option Int) : slF (.list ds) lo hi = some (.own (.lst (cutA ds lo hi))) := rfl
@[simp] theorem f_slT (ds : List D) (lo hi : Option Int) : slF (.tuple ds) lo hi = some (.val (.tuple (cutA ds lo hi))) := rfl
theorem cut_map {α β : Type} (f : α → β) (as : List α) (lo hi : Option Int) : cutA (as.map f) lo hi = (cutA as lo hi).map f := by
  unfold cutA
  rw [List.length_map, ← List.map_drop, ← List.map_take]
theorem cut_from {α : Type} (as : List α) (k : Nat) : cutA as (some (k : Int)) none = as.drop k := by
  unfold cutA
  rw [HT.sIx_nat, HT.sIx_none, List.take_of_length_le (by rw [List.length_drop]; exact Nat.le_refl _)]
  rcases Nat.le_total k as.length with h | h
  · rw [Nat.min_eq_left h]
  · rw [Nat.min_eq_right h, List.drop_length, List.drop_eq_nil_of_le h]
theorem cut_to {α : Type} (as : List α) (k : Nat) : cutA as none (some (k : Int)) = as.take k := by
  unfold cutA
  rw [HT.sIx_nat, HT.sIx_none, List.drop_zero, Nat.sub_zero]
  rcases Nat.le_total k as.length with h | h
  · rw [Nat.min_eq_left h]
  · rw [Nat.min_eq_right h, List.take_length, List.take_of_length_le h]
theorem pick_map {α β : Type} (f : α → β) (as : List α) (lo hi st : Option Int) : pickA (as.map f) lo hi st = (pickA as lo hi st).map f := by
  unfold pickA
  rw [List.length_map, List.map_filterMap]
  congr 1
  funext i
  rw [List.getElem?_map]
theorem pick_len {α : Type} (as : List α) (lo hi st : Option Int) : (pickA as lo hi st).length ≤ as.length := by
  unfold pickA
  refine Nat.le_trans (List.length_filterMap_le _ _) (sliceRange_length_le _ _ _ _ (fun hc => ?_) fun hc => ?_)
  · simp only [sliceBounds] at hc ⊢
    simp only [hc, if_true]
    constructor
    · cases lo with
      | none => simp
      | some i => dsimp only; omega
    · cases hi with
      | none => simp
      | some i => dsimp only; omega
  · simp only [sliceBounds] at hc ⊢
    simp only [hc, if_false]
    constructor
    · cases lo with
      | none => simp
      | some i => dsimp only; omega
    · cases hi with
      | none => simp
      | some i => dsimp only; omega
theorem f_slSI {ns : List Int} {lo hi : Option Int} {k : Int} (hk : k ≠ 0) (hl : ns.length ≤ 1000000) : slSF (.list (ns.map PyData.int)) lo hi (some k) = some (.own (.lst ((pickA ns lo hi (some k)).map PyData.int))) := by
  unfold slSF
  simp only
  rw [ok_pos ⟨fun e => hk (Option.some.inj e), by rw [pick_map, List.length_map]; exact Nat.le_trans (pick_len _ _ _ _) hl⟩, pick_map]
theorem ixN_n {n i : Nat} (h : i < n) : ixN n (i : Int) = some i := by
  unfold ixN
  rw [if_pos (Int.natCast_nonneg i), if_pos (by omega), Int.toNat_natCast]
theorem range12 {lo : Nat} {hi : Nat} (h : hi ≤ 1000000) (h2 : lo ≤ 1000000) : rng2F [.int (lo : Int), .int (hi : Int)] = some ((List.range (hi - lo)).map fun i => nt (lo + i)) := by
  rw [f_rng2 (by omega) (by omega) (by omega) (by omega)]
  unfold rangeD
  rw [show ((hi : Int) - (lo : Int)).toNat = hi - lo by omega]
  congr 1
theorem range1 {hi : Nat} (h : hi ≤ 1000000) : rng2F [.int 1, .int (hi : Int)] = some ((List.range (hi - 1)).map fun i => nt (1 + i)) := range12 (lo := 1) h (by omega)
/-- a range from 1 to n, both told -/
theorem range1p {n : Nat} (h : n < 1000000) : rng2F [.int 1, .int ((n : Int) + 1)] = some ((List.range n).map fun i => nt (1 + i)) := by
  have := range1 (hi := n + 1) (by omega)
  rw [show ((n + 1 : Nat) : Int) = (n : Int) + 1 by omega] at this
  exact this

@[simp] theorem f_eqB (i j : Bool) : eqF (.bool i) (.bool j) = some (.val (.bool (decide (i = j)))) := rfl
@[simp] theorem f_neB (i j : Bool) : neF (.bool i) (.bool j) = some (.val (.bool (!decide (i = j)))) := rfl
@[simp] theorem f_isN (d : D) : isNF d = some (.val (.bool (isNon d))) := rfl
@[simp] theorem f_notN (d : D) : notNF d = some (.val (.bool (!isNon d))) := rfl
@[simp] theorem n_none : isNon .none = true := rfl
@[simp] theorem n_tuple (ds : List D) : isNon (.tuple ds) = false := rfl
@[simp] theorem n_list (ds : List D) : isNon (.list ds) = false := rfl
@[simp] theorem n_int (i : Int) : isNon (.int i) = false := rfl
/-! ### sizes of products -/
/-- not below nought, no more than 64 to e -/
def Bd (e : Nat) (x : Int) : Prop := 0 ≤ x ∧ x ≤ 64 ^ e
theorem bd_mono {e e' : Nat} {x : Int} (h : Bd e x) (he : e ≤ e') : Bd e' x := by
  refine ⟨h.1, Int.le_trans h.2 ?_⟩
  have h1 : (64 : Nat) ^ e ≤ 64 ^ e' := Nat.pow_le_pow_right (by decide) he
  have h2 : ((64 ^ e : Nat) : Int) ≤ ((64 ^ e' : Nat) : Int) := by omega
  simpa using h2
theorem bd_mul {e e' : Nat} {x y : Int} (h : Bd e x) (h' : Bd e' y) : Bd (e + e') (x * y) := by
  refine ⟨Int.mul_nonneg h.1 h'.1, ?_⟩
  rw [Int.pow_add]
  exact Int.mul_le_mul h.2 h'.2 h'.1 (Int.le_trans h.1 h.2)
theorem bd_small {x : Int} (h : 0 ≤ x) (h2 : x ≤ 64) : Bd 1 x := ⟨h, by simpa using h2⟩
theorem bd_one (e : Nat) : Bd e 1 := bd_mono (e := 0) ⟨by decide, by simp⟩ (Nat.zero_le _)
theorem bd_zero (e : Nat) : Bd e 0 := bd_mono (e := 0) ⟨by decide, by simp⟩ (Nat.zero_le _)
theorem log2_bd {e : Nat} {x : Int} (h : Bd e x) : x.natAbs.log2 ≤ 6 * e := by
  have h1 : x.natAbs ≤ 64 ^ e := by
    have h2 : (x.natAbs : Int) ≤ ((64 ^ e : Nat) : Int) := by
      rw [Int.natAbs_of_nonneg h.1]
      simpa using h.2
    omega
  have h3 : (64 : Nat) ^ e = 2 ^ (6 * e) := by rw [Nat.pow_mul]
  by_cases h0 : x.natAbs = 0
  · rw [h0]; simp
  · have h4 : x.natAbs < 2 ^ (6 * e + 1) := by
      rw [Nat.pow_succ, ← h3]
      have : 0 < 64 ^ e := Nat.pow_pos (by decide)
      omega
    have := (Nat.log2_lt h0).mpr h4
    omega
theorem mulOk_bd {e e' : Nat} {x y : Int} (h : Bd e x) (h' : Bd e' y) (he : e + e' ≤ 100000) : mulOk x y := by
  have h1 := log2_bd h
  have h2 := log2_bd h'
  exact .inr (.inr (by omega))
theorem mulOk_right {i j : Int} (h1 : -1000000 ≤ j) (h2 : j ≤ 1000000) : mulOk i j := .inr (.inl ⟨by omega, by omega⟩)
theorem mulOk_left {i j : Int} (h1 : -1000000 ≤ i) (h2 : i ≤ 1000000) : mulOk i j := .inl ⟨by omega, by omega⟩

theorem for_rng1 {g : MG} {b : M Fl} {mi : MI} {E E1 : SEnv} {n : Nat} (hmi : mi E = .ok ((List.range n).map fun i => nt (1 + i), none) E1) (I : Nat → SEnv → Prop) (h0 : I 0 E1) (hs : ∀ (i : Nat), i < n → ∀ (E : SEnv), I i E → ∃ E1 E2, g (.val (.int ((i + 1 : Nat) : Int))) E = some E1 ∧ (b E1 = .ok .nx E2 ∨ b E1 = .ok .ct E2) ∧ I (i + 1) E2) :
    ∃ E', mFor mi g b E = .ok .nx E' ∧ I n E' := by
  have := for_map (g := g) (b := b) (f := fun i => nt (1 + i)) (as := List.range n) hmi I h0 fun i hi E h => by
    have hi' : i < n := by simpa using hi
    obtain ⟨E1, E2, h1, h2⟩ := hs i hi' E h
    refine ⟨E1, E2, ?_, h2⟩
    rw [← h1]
    simp [Int.add_comm]
  simpa using this
theorem mMul_own {a b : M Ret} {E E1 E2 : SEnv} {xs : List D} {r2 : Ret} {n : Nat} (ha : a E = .ok (.own (.lst xs)) E1) (hb : b E1 = .ok r2 E2) (hd : dat E2 r2 = some (.int (n : Int))) (hn : n ≤ 1000) (hx : xs.length ≤ 1000) : mMul a b E = .ok (.own (.lst (List.replicate n xs).flatten)) E2 := by
  have hz : xs.length * n ≤ 1000 * 1000 := Nat.mul_le_mul hx hn
  rw [e_mMul, ha]
  simp only [bind_ok]
  rw [hb]
  simp only [bind_ok]
  rw [hd]
  simp only
  rw [ok_pos ⟨smallI_n (by omega), by rw [Int.toNat_natCast]; unfold big; omega⟩, Int.toNat_natCast]
theorem flat_rep1 {α : Type} (x : α) : ∀ n : Nat, (List.replicate n [x]).flatten = List.replicate n x
  | 0 => rfl
  | n + 1 => by rw [List.replicate_succ, List.flatten_cons, flat_rep1 x n, List.replicate_succ]; rfl
theorem mMul_rep {a b : M Ret} {E E1 E2 : SEnv} {x : D} {r2 : Ret} {n : Nat} (ha : a E = .ok (.own (.lst [x])) E1) (hb : b E1 = .ok r2 E2) (hd : dat E2 r2 = some (.int (n : Int))) (hn : n ≤ 1000) : mMul a b E = .ok (.own (.lst (List.replicate n x))) E2 := by
  rw [mMul_own ha hb hd hn (by simp), flat_rep1]
@[simp] theorem f_eqL00 : eqF (.list []) (.list []) = some (.val (.bool true)) := f_eqLN []  []
@[simp] theorem f_neL00 : neF (.list []) (.list []) = some (.val (.bool false)) := f_neLN [] []
@[simp] theorem f_eqT00 : eqF (.tuple []) (.tuple []) = some (.val (.bool true)) := f_eqTN [] []
@[simp] theorem f_neT00 : neF (.tuple []) (.tuple []) = some (.val (.bool false)) := f_neTN [] []
@[simp] theorem f_neTN0 (as : List Nat) : neF (.tuple (as.map nt)) (.tuple []) = some (.val (.bool (!decide (as = [])))) := f_neTN as []
@[simp] theorem f_neLN0 (as : List Nat) : neF (.list (as.map nt)) (.list []) = some (.val (.bool (!decide (as = [])))) := f_neLN as []
/-- a comprehension with a test over a mapped list -/
theorem lc_filt {j : Nat} {mi : MI} {mt : M Bool} {me : M Ret} {E : SEnv} {α : Type} {f : α → D} {as : List α} (h : α → D) (p : α → Bool) (hmi : mi E = .ok (as.map f, none) E) (hh : isHid E j = true) (hl : as.length ≤ 1000000)
    (hm : ∀ a ∈ as, ∃ r, mt (E.set j (.val (f a))) = .ok (p a) (E.set j (.val (f a))) ∧ (p a = true → me (E.set j (.val (f a))) = .ok r (E.set j (.val (f a))) ∧ take (E.set j (.val (f a))) r = some (h a, E.set j (.val (f a))))) :
    mLc [j] (st1 j) mi mt me E = .ok (.own (.lst ((as.filter p).map h))) E := by
  classical
  let F : D → D := fun d => if hd : ∃ a ∈ as, f a = d then h (Classical.choose hd) else d
  let Q : D → Bool := fun d => if hd : ∃ a ∈ as, f a = d then p (Classical.choose hd) else false
  have hQ : ∀ a ∈ as, Q (f a) = p a := fun a ha => by
    have hd : ∃ a' ∈ as, f a' = f a := ⟨a, ha, rfl⟩
    have eQ : Q (f a) = p (Classical.choose hd) := dif_pos hd
    obtain ⟨h1, h2⟩ := Classical.choose_spec hd
    obtain ⟨r, e1, _⟩ := hm _ h1
    obtain ⟨r', e2, _⟩ := hm _ ha
    rw [h2] at e1
    rw [e1] at e2
    rw [eQ]
    exact (Res.ok.inj e2).1
  have hF : ∀ a ∈ as, p a = true → ∃ r, me (E.set j (.val (f a))) = .ok r (E.set j (.val (f a))) ∧ take (E.set j (.val (f a))) r = some (F (f a), E.set j (.val (f a))) := fun a ha hpa => by
    have hd : ∃ a' ∈ as, f a' = f a := ⟨a, ha, rfl⟩
    have eF : F (f a) = h (Classical.choose hd) := dif_pos hd
    have eQ : Q (f a) = p (Classical.choose hd) := dif_pos hd
    obtain ⟨h1, h2⟩ := Classical.choose_spec hd
    obtain ⟨r, e0, e1⟩ := hm _ h1
    obtain ⟨e1, e2⟩ := e1 (by rw [← eQ, hQ a ha]; exact hpa)
    rw [h2] at e1 e2
    exact ⟨r, e1, by rw [eF]; exact e2⟩
  have q := lc_none (mt := mt) (me := me) F Q hmi hh (by simpa using hl) fun d hd => by
    obtain ⟨a, ha, rfl⟩ := List.mem_map.mp hd
    obtain ⟨r0, e0, _⟩ := hm a ha
    cases hpa : p a with
    | false => exact ⟨r0, by rw [e0, hQ a ha], fun z => by rw [hQ a ha, hpa] at z; cases z⟩
    | true =>
      obtain ⟨r, e1, e2⟩ := hF a ha hpa
      exact ⟨r, by rw [e0, hQ a ha], fun _ => ⟨e1, e2⟩⟩
  rw [q]
  congr 3
  rw [List.filter_map, List.map_map]
  have e1 : as.filter (Q ∘ f) = as.filter p := List.filter_congr fun a ha => hQ a ha
  rw [e1]
  refine List.map_congr_left fun a ha => ?_
  obtain ⟨ha, hpa⟩ := List.mem_filter.mp ha
  obtain ⟨r, e1, e2⟩ := hF a ha hpa
  obtain ⟨r', _, e3⟩ := hm a ha
  obtain ⟨e3, e4⟩ := e3 hpa
  rw [e1] at e3
  cases e3
  rw [e2] at e4
  exact (Prod.mk.inj (Option.some.inj e4)).1
end MP

namespace MP
open PySem PySem.Spec L2

/-! ### is None as a test -/
section
variable {X : Cx} {cl : Cl} {W : WX} {a b : Expr} {pos : Pos} {ma mb : M Ret}
theorem den_isNt {j : Nat} {p : Pos} (ha : PE X a (tM X.K cl W ma)) : PT X (.Compare a [.Is] [.Constant .none j p] pos) (tMT X.K cl W (mBl (m1 isNF ma))) := pt_ofC (pc_isN ha) (fun σ H Q h =>
  tUn_of (r := fun x H Q => Q (.bl (decide (x = .non))) H) (f := isNF) (fun F H x a rv Q hs hd e g => by cases e; rw [dpt_non hd]; exact g.bool) σ H Q h) rfl
theorem den_notNt {j : Nat} {p : Pos} (ha : PE X a (tM X.K cl W ma)) : PT X (.Compare a [.IsNot] [.Constant .none j p] pos) (tMT X.K cl W (mBl (m1 notNF ma))) := pt_ofC (pc_notN ha) (fun σ H Q h =>
  tUn_of (r := fun x H Q => Q (.bl (!decide (x = .non))) H) (f := notNF) (fun F H x a rv Q hs hd e g => by cases e; rw [dpt_non hd]; exact g.bool) σ H Q h) rfl
end
/-! ### in a list, deep -/
noncomputable def inDF : D → D → Option Rv
  | x, .list ds => if Ok (SeqAt.shaped x = true ∧ SeqAt.shaped (.list ds) = true) then some (.val (.bool (ds.any fun z => PyData.eqv z x))) else none
  | _, _ => none
noncomputable def ninDF : D → D → Option Rv
  | x, .list ds => if Ok (SeqAt.shaped x = true ∧ SeqAt.shaped (.list ds) = true) then some (.val (.bool (!ds.any fun z => PyData.eqv z x))) else none
  | _, _ => none
theorem inD_ok {K : PySem.W.Frag} : Op2 K (rInD K) inDF := fun F H x y a b rv Q hs ha hb e g => by
  unfold inDF at e
  split at e
  · split at e
    · rename_i hl
      cases e
      exact ⟨_, _, (dp_of ha hs).low, (dp_of hb hs).low, hl.1, hl.2, g.bool⟩
    · cases e
  · cases e
theorem ninD_ok {K : PySem.W.Frag} : Op2 K (rNotInD K) ninDF := fun F H x y a b rv Q hs ha hb e g => by
  unfold ninDF at e
  split at e
  · split at e
    · rename_i hl
      cases e
      exact ⟨_, _, (dp_of ha hs).low, (dp_of hb hs).low, hl.1, hl.2, g.bool⟩
    · cases e
  · cases e
theorem hu65 {A : Around} {k : Nat} (hr : Room k A) : A.units + 65 < cLine := by have := hr.un; omega
section
variable {α : Type} [DecidableEq α] {f : α → D} {k : Nat}
theorem any_lay (L : Lay f k) (x : α) : ∀ as : List α, ((as.map f).any fun z => PyData.eqv z (f x)) = decide (x ∈ as)
  | [] => by simp
  | a :: as => by
    rw [List.map_cons, List.any_cons, L.eq, any_lay L x as]
    by_cases h : a = x
    · subst h; simp
    · have h' : ¬ x = a := fun z => h z.symm
      simp [h, h']
theorem in_lay (L : Lay f k) (hk : k < 64) (x : α) (as : List α) : inDF (f x) (.list (as.map f)) = some (.val (.bool (decide (x ∈ as)))) := by
  unfold inDF
  simp only
  rw [ok_pos ⟨L.shaped (Nat.le_of_lt hk) x, L.list.shaped hk as⟩, any_lay L]
theorem nin_lay (L : Lay f k) (hk : k < 64) (x : α) (as : List α) : ninDF (f x) (.list (as.map f)) = some (.val (.bool (!decide (x ∈ as)))) := by
  unfold ninDF
  simp only
  rw [ok_pos ⟨L.shaped (Nat.le_of_lt hk) x, L.list.shaped hk as⟩, any_lay L]
end

/-! ### a display that is compared at once: what stands in it stays one's own -/
noncomputable def mDisp (f : D → D → Option Rv) (ms : M (List Ret)) (j : Nat) : M Ret := fun E => (ms E).bind fun rs E1 => match dats E1 rs, (E1[j]?).bind Slot.dat with
  | some ds, some d => if Ok (ds.length ≤ 1000) then (match f (.list ds) d with
    | some (.val (.bool k)) => .ok (.val (.bool k)) E1
    | _ => .no) else .no
  | _, _ => .no
section
variable {X : Cx} {cl : Cl} {W : WX} {es : List Expr} {pos p1 vpos : Pos} {ms : M (List Ret)} {op : CmpOp} {r : R2} {f : D → D → Option Rv}
theorem dps_dpts {K : PySem.W.Frag} {F H : Hp} (h : Same F H) {vs : List V} {ds : List D} (d : DpTs K F H vs ds) : DpAll K H vs ds := dps_of_dpts h d
theorem disp_of {K : PySem.W.Frag} {j : Nat} (hf : Op2 K r f) (σ : St) (H : Hp) (Q : VK) (h : tM K cl W (mDisp f ms j) σ H Q) :
    tOp r (fun σ H Q => tMA K cl W ms σ H fun vs H1 => vs.length ≤ sizeLine ∧ ∀ a, H1 a = none → Q (.ref a) (upd H1 a (.lst vs))) (tVar j) σ H Q := by
  obtain ⟨C, E, T, R, h⟩ := h
  refine ⟨C, E, T, R, (Run.bind h).imp fun rs E1 h1 vs H1 R1 b1 => ?_⟩
  split at h1
  case h_2 => exact h1.elim
  rename_i ds d e1 e2
  split at h1
  case isFalse => exact h1.elim
  rename_i hl
  split at h1
  case h_2 => exact h1.elim
  rename_i k e3
  have p := h1
  obtain ⟨F, ρ, RF⟩ := R1
  have hd := RF.dats rfl b1 e1
  have hda := dps_dpts RF.fh hd
  refine ⟨by rw [dps_len hda]; exact Nat.le_trans hl (by rw [sizeLine_eq]; decide), fun a ha => ?_⟩
  have fs : Same H1 (upd H1 a (.lst vs)) := fun b x e => by rw [upd_ne (ne_of_none e ha)]; exact e
  obtain ⟨s, es, ed⟩ := Option.bind_eq_some_iff.mp e2
  obtain ⟨w, hw⟩ := slot_there RF es
  have hv : ∃ v, w = some v := by
    have hs := RF.sl j w s hw es
    cases s with
    | un => cases ed
    | val d => obtain ⟨x, q, _⟩ := hs; exact ⟨x, q⟩
    | own o => obtain ⟨x, q, _⟩ := hs; exact ⟨_, q⟩
    | lnt o => obtain ⟨x, q, _⟩ := hs; exact ⟨_, q⟩
    | lck o => obtain ⟨x, _, q, _⟩ := hs; exact ⟨_, q⟩
    | exc o => cases ed
    | fn o => cases ed
    | nst b o => cases ed
  obtain ⟨v, rfl⟩ := hv
  have hy : Dp K H1 v d := dp_of ((RF.sl j _ _ hw es).dpt RF.fh ed) RF.fh
  refine ⟨v, hw, ?_⟩
  have R2 := (RF.drop.after (H' := upd H1 a (.lst vs)) (Stp.of RF.tb.1 fs) (L2.Same.refl F) (L2.Same.trans RF.fh fs) (fun _ _ _ => rfl))
  refine hf (upd H1 a (.lst vs)) (upd H1 a (.lst vs)) (.ref a) v (.list ds) d (.val (.bool k)) Q (L2.Same.refl _) (dpt_of (.lst (SqL.of upd_same) (dps_mono fs hda)) (L2.Same.refl _)) (dpt_of (dp_mono fs hy) (L2.Same.refl _)) e3 ?_
  refine ⟨fun u hu => ?_, fun _ _ _ z => nomatch z⟩
  cases hu
  exact (gives (T' := []) (rv := .val (.bool k)) (by simpa using R2) p).bool
theorem den_disp (j : Nat) {x : Str} (hr : OpR X (compareOp op) r) (hf : Op2 X.K r f) (ha : PA X es (tMA X.K cl W ms)) (hN : X.N[j]? = some x := by rfl) (hv : Vis X.env.scope x := by first | exact Or.inl rfl | exact Or.inr (Or.inl rfl) | exact Or.inr (Or.inr rfl)) (hd : (x == ("__debug__" : Str)) = false := by decide) (hcd : (x == ("__classdict__" : Str)) = false := by decide)
    (hm : behindInMarks op (.Name x vpos) = false := by first | exact nomark _ | rfl) : PE X (.Compare (.List es p1) [op] [.Name x vpos] pos) (tM X.K cl W (mDisp f ms j)) := PE.imp (pe_cmpR hr (pe_lst ha) (pe_var hN hv hd hcd) hm) (disp_of hf)
theorem den_dispt (j : Nat) {x : Str} (hr : OpR X (compareOp op) r) (hf : Op2 X.K r f) (ha : PA X es (tMA X.K cl W ms)) (hN : X.N[j]? = some x := by rfl) (hv : Vis X.env.scope x := by first | exact Or.inl rfl | exact Or.inr (Or.inl rfl) | exact Or.inr (Or.inr rfl)) (hd : (x == ("__debug__" : Str)) = false := by decide) (hcd : (x == ("__classdict__" : Str)) = false := by decide)
    (hm : behindInMarks op (.Name x vpos) = false := by first | exact nomark _ | rfl) : PT X (.Compare (.List es p1) [op] [.Name x vpos] pos) (tMT X.K cl W (mBl (mDisp f ms j))) := PT.imp (pt_cmpR hr (pe_lst ha) (pe_var hN hv hd hcd) hm) fun σ H Q h => by
  obtain ⟨C, E, T, R, h⟩ := h
  have h2 := bl_run h
  exact disp_of hf σ H _ ⟨C, E, T, R, h2.imp fun r1 E1 ⟨k, e1, h1⟩ v1 H1 R1 b1 => ⟨k, dat_bl R1 b1 e1, h1 H1 R1.drop⟩⟩
end
@[simp] theorem e_disp (E : SEnv) (f : D → D → Option Rv) (ms : M (List Ret)) (j : Nat) : mDisp f ms j E = (ms E).bind fun rs E1 => match dats E1 rs, (E1[j]?).bind Slot.dat with
  | some ds, some d => if Ok (ds.length ≤ 1000) then (match f (.list ds) d with
    | some (.val (.bool k)) => .ok (.val (.bool k)) E1
    | _ => .no) else .no
  | _, _ => .no := rfl
theorem for_out_map {g : MG} {b : M Fl} {mi : MI} {E E1 : SEnv} {α : Type} {f : α → D} {as : List α} (hmi : mi E = .ok (as.map f, none) E1) (I : Nat → SEnv → Prop) (P : Res Fl → Prop) (h0 : I 0 E1)
    (hs : ∀ (i : Nat) (hi : i < as.length) (E : SEnv), I i E → ∃ E1, g (.val (f as[i])) E = some E1 ∧ ((∃ E2, (b E1 = .ok .nx E2 ∨ b E1 = .ok .ct E2) ∧ I (i + 1) E2) ∨ (∃ E2, b E1 = .ok .bk E2 ∧ P (.ok .nx E2)) ∨ (∃ r E2, b E1 = .ok (.rt r) E2 ∧ P (.ok (.rt r) E2)) ∨ (∃ x E2, b E1 = .ex x E2 ∧ P (.ex x E2))))
    (hd : ∀ E, I as.length E → P (.ok .nx E)) : P (mFor mi g b E) := by
  refine for_out (g := g) (b := b) hmi I P h0 (fun i hi E h => ?_) (by simpa using hd)
  have hi' : i < as.length := by simpa using hi
  have := hs i hi' E h
  simpa using this
theorem find_at {α : Type} {p : α → Bool} : ∀ {l : List α} {i : Nat} (hi : i < l.length), (∀ r ∈ l.take i, p r = false) → p l[i] = true → l.find? p = some l[i]
  | a :: l, 0, _, _, h => by rw [List.find?_cons]; simp at h; simp [h]
  | a :: l, i + 1, hi, h0, h => by
    have ha : p a = false := h0 a (by simp)
    rw [List.find?_cons, ha]
    exact find_at (l := l) (i := i) (by simpa using hi) (fun r hr => h0 r (by simp [hr])) (by simpa using h)
/-- with a test, over a list of one's own -/
theorem lc_filtOwn {j k : Nat} {mi : MI} {mt : M Bool} {me : M Ret} {E : SEnv} {α : Type} {f : α → D} {as bs : List α} {ds : List D} (h : α → D) (p : α → Bool) (hmi : mi E = .ok (as.map f, some k) E) (hk : E[k]? = some (.own (.lst ds))) (hh : isHid E j = true) (hl : as.length ≤ 1000000)
    (hm : ∀ a ∈ as, ∃ r, mt ((E.set k (.lck (.lst ds))).set j (.val (f a))) = .ok (p a) ((E.set k (.lck (.lst ds))).set j (.val (f a))) ∧ (p a = true → me ((E.set k (.lck (.lst ds))).set j (.val (f a))) = .ok r ((E.set k (.lck (.lst ds))).set j (.val (f a))) ∧ take ((E.set k (.lck (.lst ds))).set j (.val (f a))) r = some (h a, (E.set k (.lck (.lst ds))).set j (.val (f a)))))
    (hb : as.filter p = bs) : mLc [j] (st1 j) mi mt me E = .ok (.own (.lst (bs.map h))) E := by
  subst hb
  classical
  let E' := E.set k (.lck (.lst ds))
  let F : D → D := fun d => if hd : ∃ a ∈ as, f a = d then h (Classical.choose hd) else d
  let Q : D → Bool := fun d => if hd : ∃ a ∈ as, f a = d then p (Classical.choose hd) else false
  have hQ : ∀ a ∈ as, Q (f a) = p a := fun a ha => by
    have hd : ∃ a' ∈ as, f a' = f a := ⟨a, ha, rfl⟩
    have eQ : Q (f a) = p (Classical.choose hd) := dif_pos hd
    obtain ⟨h1, h2⟩ := Classical.choose_spec hd
    obtain ⟨r, e1, _⟩ := hm _ h1
    obtain ⟨r', e2, _⟩ := hm _ ha
    rw [h2] at e1
    rw [e1] at e2
    rw [eQ]
    exact (Res.ok.inj e2).1
  have hF : ∀ a ∈ as, p a = true → ∃ r, me (E'.set j (.val (f a))) = .ok r (E'.set j (.val (f a))) ∧ take (E'.set j (.val (f a))) r = some (F (f a), E'.set j (.val (f a))) := fun a ha hpa => by
    have hd : ∃ a' ∈ as, f a' = f a := ⟨a, ha, rfl⟩
    have eF : F (f a) = h (Classical.choose hd) := dif_pos hd
    have eQ : Q (f a) = p (Classical.choose hd) := dif_pos hd
    obtain ⟨h1, h2⟩ := Classical.choose_spec hd
    obtain ⟨r, e0, e1⟩ := hm _ h1
    obtain ⟨e1, e2⟩ := e1 (by rw [← eQ, hQ a ha]; exact hpa)
    rw [h2] at e1 e2
    exact ⟨r, e1, by rw [eF]; exact e2⟩
  have q := lc_own (mt := mt) (me := me) F Q hmi hk hh (by simpa using hl) fun d hd => by
    obtain ⟨a, ha, rfl⟩ := List.mem_map.mp hd
    obtain ⟨r0, e0, _⟩ := hm a ha
    cases hpa : p a with
    | false => exact ⟨r0, by rw [e0, hQ a ha], fun z => by rw [hQ a ha, hpa] at z; cases z⟩
    | true =>
      obtain ⟨r, e1, e2⟩ := hF a ha hpa
      exact ⟨r, by rw [e0, hQ a ha], fun _ => ⟨e1, e2⟩⟩
  rw [q]
  congr 3
  rw [List.filter_map, List.map_map]
  have e1 : as.filter (Q ∘ f) = as.filter p := List.filter_congr fun a ha => hQ a ha
  rw [e1]
  refine List.map_congr_left fun a ha => ?_
  obtain ⟨ha, hpa⟩ := List.mem_filter.mp ha
  obtain ⟨r, e1, e2⟩ := hF a ha hpa
  obtain ⟨r', _, e3⟩ := hm a ha
  obtain ⟨e3, e4⟩ := e3 hpa
  rw [show me (E'.set j (.val (f a))) = _ from e3] at e1
  cases e1
  rw [show take (E'.set j (.val (f a))) _ = _ from e4] at e2
  exact (Prod.mk.inj (Option.some.inj e2)).1.symm
end MP

open PySem PySem.Spec L2
namespace MP
/-! ### an own object goes over to another variable -/
section
variable {K : PySem.W.Frag} {cl : Cl} {C : Ctx} {F : Hp} {ρ : Own} {E : SEnv} {T : List (V × Ret)} {σ : St} {H : Hp} {i j : Nat} {p : Addr} {o : MO}
theorem RelF.unset (R : RelF K cl C F ρ E T σ H) (e : E[j]? = some (.own o)) (b : σ[j]? = some (some (.ref p))) : RelF K cl C F (fun q => if q = p then none else ρ q) (E.set j .un) T σ H := by
  obtain ⟨p', e1, h1, h2⟩ := R.sl j _ _ b e
  cases e1
  have hq : ∀ g, g ≠ Tag.s j → ∀ q o, OwnAt K F ρ H g q o → OwnAt K F (fun q => if q = p then none else ρ q) H g q o := fun g n q o h' =>
    h'.grow (L2.Same.refl F) (fun _ e => e) h'.fn (if_neg (h'.apart h1 n))
  refine { len := by simpa using R.len, f0 := R.f0, fh := R.fh, h0 := R.h0, hf := R.hf, tb := R.tb, nt := R.nt, sl := fun k w s e1 e2 => ?_, ln := fun k q e' => ?_, tm := fun k w r e' => (R.tm k w r e').grow (L2.Same.refl F) (hq _ fun z => by cases z) }
  · rcases set_cases e2 with ⟨rfl, rfl, _⟩ | ⟨n, e2⟩
    · trivial
    · exact (R.sl k w s e1 e2).grow (L2.Same.refl F) (hq _ fun z => by cases z; exact n rfl)
  · obtain ⟨o2, g1, g2⟩ := R.ln k q e'
    have n : k ≠ j := fun z => by subst z; rw [e] at g1; cases g1
    exact ⟨o2, by rw [List.getElem?_set_ne (Ne.symm n)]; exact g1, g2⟩
theorem RelF.mov {s : Slot} (R : RelF K cl C F ρ E T σ H) (e : E[j]? = some (.own o)) (b : σ[j]? = some (some (.ref p))) (n : i ≠ j) (ei : E[i]? = some s) (hs : s.free = true) :
    ∃ ρ', RelF K cl C F ρ' ((E.set j .un).set i (.own o)) T (σ.set i (some (.ref p))) H := by
  obtain ⟨p', e1, h1, h2⟩ := R.sl j _ _ b e
  cases e1
  have R1 := R.unset e b
  refine ⟨fun q => if q = p then some (.s i) else ρ q, R1.put_slot (s := s) (by rw [List.getElem?_set_ne (Ne.symm n)]; exact ei) hs (L2.Same.refl F) R.fh R.hf R.tb.2 (fun g hg q o' h' => .inr ?_) ⟨p, rfl, ?_, h2⟩⟩
  · have hne : q ≠ p := fun z => by
      have := h'.tag
      rw [if_pos z] at this
      cases this
    exact h'.grow (L2.Same.refl F) (fun _ e => e) h'.fn (by rw [if_neg hne, if_neg hne])
  · obtain ⟨ho, e1, m, f, _⟩ := h1
    exact ⟨ho, e1, m, f, if_pos rfl⟩
end
def mMov (i j : Nat) : M Fl := fun E => match E[j]?, E[i]? with
  | some (.own o), some s => if i ≠ j ∧ s.free = true then .ok .nx ((E.set j .un).set i (.own o)) else .no
  | some (.val d), some s => if s.free = true then .ok .nx (E.set i (.val d)) else .no
  | _, _ => .no
section
variable {X : Cx} {cl : Cl} {W : WX} {pos vpos : Pos}
theorem den_mov (i j : Nat) {x y : Str} {pos' : Pos} (hN : X.N.Nodup) (hNy : X.N[j]? = some y := by rfl) (hv : Vis X.env.scope y := by first | exact Or.inl rfl | exact Or.inr (Or.inl rfl) | exact Or.inr (Or.inr rfl)) (hd : (y == ("__debug__" : Str)) = false := by decide) (hcd : (y == ("__classdict__" : Str)) = false := by decide)
    (hi : X.N[i]? = some x := by rfl) (hx : Loc X.env.scope x := by first | exact Or.inl rfl | exact Or.inr rfl) (hs : swapsWith (.Name y vpos) (some (.Name x pos')) pos.line X.env = pure false := by rfl) (hf : X.fn x = true ∨ X.env.scope.names.lookup x = some .local := by first | exact .inl rfl | exact .inr rfl) :
    PS X (.Assign [.Name x pos'] (.Name y vpos) pos) (tMS X.K cl W (mMov i j)) := PS.imp (ps_set hN hi hx (pe_var hNy hv hd hcd) hs hf) fun D σ H h => by
  obtain ⟨C, E, T, ⟨F, ρ, R⟩, h⟩ := h
  unfold mMov at h
  split at h
  · rename_i o s e1 e2
    split at h
    · rename_i hc
      obtain ⟨w, hw⟩ := slot_there R e1
      obtain ⟨p, rfl, _⟩ := R.sl j w _ hw e1
      obtain ⟨ρ', R'⟩ := R.mov e1 hw hc.1 e2 hc.2
      exact ⟨_, hw, h _ _ R'.rel⟩
    · exact h.elim
  · rename_i d s e1 e2
    split at h
    · rename_i hc
      obtain ⟨w, hw⟩ := slot_there R e1
      obtain ⟨x, rfl, h1⟩ := R.sl j w _ hw e1
      have R' := R.put_slot (v := x) (s' := .val d) e2 hc (L2.Same.refl F) R.fh R.hf R.tb.2 (fun _ _ _ _ h => .inr h) ⟨x, rfl, h1⟩
      exact ⟨_, hw, h _ _ R'.rel⟩
    · exact h.elim
  · exact h.elim
end
@[simp] theorem e_mov (i j : Nat) (E : SEnv) : mMov i j E = match E[j]?, E[i]? with
  | some (.own o), some s => if i ≠ j ∧ s.free = true then .ok .nx ((E.set j .un).set i (.own o)) else .no
  | some (.val d), some s => if s.free = true then .ok .nx (E.set i (.val d)) else .no
  | _, _ => .no := rfl
theorem fnok_no {P : Program} {w : World} {K : PySem.W.Frag} {mg : Str → Option Value} {base : Heap} {cl : Cl} {CX : CXT} {k : Nat} {f : Addr} {fd : FuncData} {ps : List Str} : FnOk P w K mg base CX k f fd ps (spM K cl fun _ => .no) :=
  ⟨fun vs H Q E ⟨_, _, _, _, _, h⟩ => h.elim, fun A outer s H args us vs Q E _ _ _ _ ⟨_, _, _, _, _, h⟩ => h.elim⟩
end MP

open PySem PySem.Spec L2
namespace MP
/-! ### a while loop whose states are told by a number -/
theorem while_ix {c : M Bool} {b : M Fl} (S : Nat → SEnv) (L : Nat) (R : Res Fl) (hR : R ≠ .no) (hc : ∀ i, i < L → c (S i) = .ok true (S i)) (hb : ∀ i, i < L → b (S i) = .ok .nx (S (i + 1)))
    (he : (∃ E1, c (S L) = .ok false E1 ∧ R = .ok .nx E1) ∨ (∃ r E1 E2, c (S L) = .ok true E1 ∧ b E1 = .ok (.rt r) E2 ∧ R = .ok (.rt r) E2) ∨ ∃ E1 E2, c (S L) = .ok true E1 ∧ b E1 = .ok .bk E2 ∧ R = .ok .nx E2) : mWhile c b (S 0) = R := by
  have key : ∀ n i, i ≤ L → L - i < n → mWhileF c b n (S i) = R := by
    intro n
    induction n with
    | zero => intro i _ h; omega
    | succ n ih =>
      intro i hi hn
      rw [mWhileF]
      by_cases hl : i < L
      · simp only [hc i hl, bind_ok, if_true, hb i hl]
        exact ih (i + 1) (by omega) (by omega)
      · have : i = L := by omega
        subst this
        rcases he with ⟨E1, e1, rfl⟩ | ⟨r, E1, E2, e1, e2, rfl⟩ | ⟨E1, E2, e1, e2, rfl⟩
        · simp [e1]
        · simp [e1, e2]
        · simp [e1, e2]
  have hk := key (L + 1) 0 (by omega) (by omega)
  rw [while_eq (n := L + 1) (fun e => hR (by rw [← hk, e]))]
  exact hk
theorem while_end {c : M Bool} {b : M Fl} (S : Nat → SEnv) (L : Nat) (hc : ∀ i, i < L → c (S i) = .ok true (S i)) (hb : ∀ i, i < L → b (S i) = .ok .nx (S (i + 1))) (he : c (S L) = .ok false (S L)) : mWhile c b (S 0) = .ok .nx (S L) :=
  while_ix S L _ (by intro h; cases h) hc hb (.inl ⟨_, he, rfl⟩)
theorem while_ret {c : M Bool} {b : M Fl} {r : Ret} {E2 : SEnv} (S : Nat → SEnv) (L : Nat) (hc : ∀ i, i ≤ L → c (S i) = .ok true (S i)) (hb : ∀ i, i < L → b (S i) = .ok .nx (S (i + 1))) (he : b (S L) = .ok (.rt r) E2) : mWhile c b (S 0) = .ok (.rt r) E2 :=
  while_ix S L _ (by intro h; cases h) (fun i h => hc i (by omega)) hb (.inr (.inl ⟨r, _, _, hc L (Nat.le_refl _), he, rfl⟩))
/-- appending, by length -/
theorem app_n {α : Type} (f : α → D) {as : List α} {a : α} (h : as.length < 100000) : appF (as.map f) [f a] = some ((as ++ [a]).map f, .none) := by
  unfold appF
  simp only
  rw [ok_pos (by rw [List.length_map]; unfold big; omega)]
  simp
@[simp] theorem isiB_int_bool (i : Bool) : isiB .int (.bool i) = true := rfl
@[simp] theorem isiB_int_str (i : Str) : isiB .int (.str i) = false := rfl
@[simp] theorem isiB_int_list (ds : List D) : isiB .int (.list ds) = false := rfl
@[simp] theorem isiB_int_tuple (ds : List D) : isiB .int (.tuple ds) = false := rfl
@[simp] theorem isiB_int_none  : isiB .int .none = false := rfl
@[simp] theorem isiB_bool_str (i : Str) : isiB .bool (.str i) = false := rfl
@[simp] theorem isiB_bool_list (ds : List D) : isiB .bool (.list ds) = false := rfl
@[simp] theorem isiB_bool_tuple (ds : List D) : isiB .bool (.tuple ds) = false := rfl
@[simp] theorem isiB_bool_none  : isiB .bool .none = false := rfl
@[simp] theorem isiB_str_int (i : Int) : isiB .str (.int i) = false := rfl
@[simp] theorem isiB_str_bool (i : Bool) : isiB .str (.bool i) = false := rfl
@[simp] theorem isiB_str_str (i : Str) : isiB .str (.str i) = true := rfl
@[simp] theorem isiB_str_list (ds : List D) : isiB .str (.list ds) = false := rfl
@[simp] theorem isiB_str_tuple (ds : List D) : isiB .str (.tuple ds) = false := rfl
@[simp] theorem isiB_str_none  : isiB .str .none = false := rfl
@[simp] theorem isiB_list_int (i : Int) : isiB .list (.int i) = false := rfl
@[simp] theorem isiB_list_bool (i : Bool) : isiB .list (.bool i) = false := rfl
@[simp] theorem isiB_list_str (i : Str) : isiB .list (.str i) = false := rfl
@[simp] theorem isiB_list_tuple (ds : List D) : isiB .list (.tuple ds) = false := rfl
@[simp] theorem isiB_list_none  : isiB .list .none = false := rfl
@[simp] theorem isiB_tuple_int (i : Int) : isiB .tuple (.int i) = false := rfl
@[simp] theorem isiB_tuple_bool (i : Bool) : isiB .tuple (.bool i) = false := rfl
@[simp] theorem isiB_tuple_str (i : Str) : isiB .tuple (.str i) = false := rfl
@[simp] theorem isiB_tuple_list (ds : List D) : isiB .tuple (.list ds) = false := rfl
@[simp] theorem isiB_tuple_none  : isiB .tuple .none = false := rfl
end MP

open PySem PySem.Spec L2
namespace MP
section
open PyProof.Rows
/-! ### a refusal that is caught and kept -/
section
variable {X : Cx} {pins : List (Addr × Obj)} {σ : L2.St} {H : Hp} {s0 s1 : Shared} {B : Heap} {a : Addr} {cls : Value} {d : Option Addr}
theorem exc_ok {P : Program} {w : World} {H : Hp} {h : Heap} (e : ∃ oe vs, h.get? a = some oe ∧ Zc cls d oe ∧ oe.data = .fields vs) : ObjOk P w H h a (ExcHO cls d a) := by
  obtain ⟨oe, vs, e1, e2, e3⟩ := e
  exact ⟨⟨oe, vs, e1, e2, e3⟩, ⟨oe, e1⟩, fun _ _ ⟨o, v, g1, g2, g3⟩ k => ⟨o, v, k o g1, g2, g3⟩⟩
/-- where an exception has come down, it is a thing of ours -/
theorem land_kept (I : Inv X pins σ H s0) (nb : ∀ b o, s0.heap.get? b = some o → b ∉ frs X.stack → B.get? b = some o) (st : B.StaysIn s1.heap) (up : s0.heap.UpToSlots s1.heap) (os : s1.os = s0.os) (ag : AllBare s1.gens)
    (na : H a = none) (ba : B.get? a = none) (he : ∃ oe vs, s1.heap.get? a = some oe ∧ Zc cls d oe ∧ oe.data = .fields vs) : Inv X pins σ (upd H a (ExcHO cls d a)) s1 := by
  have frame : ∀ b ∈ frs X.stack, ∀ o, s0.heap.get? b = some o → (∃ sl, s1.heap.get? b = some { o with slots := sl }) ∧ ∀ vs, o.data ≠ .fields vs := fun b hb o e => by
    obtain ⟨_, o1, e1, hd⟩ := I.stack.mem hb
    rw [e] at e1
    cases e1
    exact ⟨up b o e hd, hd⟩
  have fresh : s0.heap.get? a = none := by
    cases q : s0.heap.get? a with
    | none => rfl
    | some o =>
      by_cases hb : a ∈ frs X.stack
      · obtain ⟨⟨sl, e1⟩, hd⟩ := frame a hb o q
        obtain ⟨oe, vs, e2, _, e3⟩ := he
        rw [e1] at e2
        cases e2
        exact absurd e3 (hd vs)
      · rw [nb a o q hb] at ba
        cases ba
  have other : ∀ {b : Addr} {o : Obj}, s0.heap.get? b = some o → b ≠ a := fun {b o} e z => by
    subst z
    rw [fresh] at e
    cases e
  refine I.call' (ch := []) os ?_ ?_ ag (fun _ z => nomatch z)
  · refine { keep := fun b o e n hb _ => st b o (nb b o e hb), slot := fun b o e n hb _ => (frame b hb o e).1, free := fun b o e n _ => ?_, there := fun b o e _ => ?_, tups := fun b xs e => ?_, frzs := fun b o u e => ?_, tbls := fun b ps e => ⟨#[], ?_⟩ }
    · rw [upd_ne (other e)]; exact n
    · by_cases hb : b ∈ frs X.stack
      · obtain ⟨⟨sl, e1⟩, _⟩ := frame b hb o e
        exact ⟨_, e1⟩
      · exact ⟨o, st b o (nb b o e hb)⟩
    · rw [upd_ne (ne_of_none e na)]; exact e
    · rw [upd_ne (ne_of_none e na)]; exact e
    · rw [upd_ne (ne_of_none e na), e]; simp
  · have g : HOk X.prog X.w H s1.heap := (I.inGround nb).kept st
    intro b u e
    by_cases hb : b = a
    · subst hb
      rw [upd_same] at e
      cases e
      exact exc_ok he
    · rw [upd_ne hb] at e
      exact (g b u e).stay (fun _ _ _ q => q) (fun c q => by rw [upd_ne (ne_of_none q na)]; exact q) (fun c xs q => by rw [upd_ne (ne_of_none q na)]; exact q)
theorem in_suite (I : Inv X pins σ H s0) : Inv (X.suite a (X.pn ++ pins)) [] σ H s0 :=
  { ok := I.ok.suite _ _, os := I.os, bare := I.bare, base := I.base, loc := I.loc, cell := I.cell, free := I.free, freeC := I.freeC, hok := I.hok, len := I.len,
    pin := fun p hp => I.pin p (by simpa using hp) }
theorem out_suite {pn : List (Addr × Obj)} (I : Inv (X.suite a (X.pn ++ pins)) pn σ H s0) (ok : X.Ok) : Inv X pins σ H s0 :=
  { ok := ok, os := I.os, bare := I.bare, base := I.base, loc := I.loc, cell := I.cell, free := I.free, freeC := I.freeC, hok := I.hok, len := I.len,
    pin := fun p hp => I.pin p (List.mem_append_left _ hp) }
end
/-- what the clause wishes of a refusal of the body -/
def wKeep (K : PySem.W.Frag) (c : Value) (i : Nat) (ts : TS) (D : Ends) : WX := fun cls d σ H =>
  PySem.W.exmOne K cls c = some true ∧ ∀ a, H a = none → ts { nx := fun σ1 H1 => D.nx (σ1.set i none) H1, rt := D.rt, bk := fun σ1 H1 => D.bk (σ1.set i none) H1, ct := fun σ1 H1 => D.ct (σ1.set i none) H1 } (σ.set i (some (.ref a))) (upd H a (ExcHO cls d a))
section
variable {X : Cx} {x n : Str} {c : Value} {i : Nat} {body suite : List Stmt} {b1 : Stmt} {np pos pos2 : Pos} {tb : WX → TS} {ts : TS}
theorem ps_keep (hs : X.stack = X.env :: X.outer) (hf : X.env.frame = some X.env.locals) (hN : X.N.Nodup) (hi : X.N[i]? = some n) (hln : X.env.kindOf n = some .local) (hc : Names X x c)
    (hb : ∀ (W : WX) (pn : List (Addr × Obj)) (xe : Value → Shared → Prop), Takes (X.tr pn xe) W → PassesOwn (model X.prog X.w) X.A X.env xe → PSs (X.tr pn xe) body (tb W))
    (hsu : ∀ (a : Addr) (pn : List (Addr × Obj)), PSs (X.suite a pn) (b1 :: suite) ts) :
    PS X (.Try body [.ExceptHandler (some (.Name x np)) (some n) (b1 :: suite) pos2] [] [] pos) (fun D σ H => tb (wKeep X.K c i ts D) D σ H) := by
  refine ⟨fun pins s σ H D I h => ?_⟩
  have ok := I.ok
  have frm : X.A.frames = some (X.env :: X.outer) := by rw [ok.frames, hs]
  refine wpAny_Try_except (wpAny_mono ((hb (wKeep X.K c i ts D) (X.pn ++ pins) _ (fun u t xx => ?_) PassesOwn.looking).run [] s σ H D (I.toTry _) h) (fun f t q => ?_) (fun e t q => q))
  · obtain ⟨a, B, sI, pn1, σ1, H1, cls, d, rfl, J0, nb, up, sky, na, os, ag, hmatch, hgo⟩ := xx
    have J : Inv X pins σ1 H1 sI := J0.ofTry ok
    rw [show (X.tr (X.pn ++ pins) _).stack = X.env :: X.outer from hs] at sky
    refine Sky.land Zc.steady frm hf sky (fun h3 fl3 up3 => ?_)
    have J3 : Inv X pins σ1 (upd H1 a (ExcHO cls d a)) { t with heap := h3 } := land_kept J nb fl3.1 (up.trans up3) os ag na fl3.2.1 fl3.there
    obtain ⟨oe, vs, he, hz, hd⟩ := fl3.there
    refine wpAny_handleBy_cons (codeAny_handlers_test ?_) (fun q => by cases q)
    have ty : PySem.W.Looks (model X.prog X.w) h3 (typeOf (.ref a)) cls := fun A Q E s1 k q => wpAny_typeOf_ref (k _ _ he) (by rw [hz.1]; exact q)
    have mt := PySem.W.exm_one (M := model X.prog X.w) J3.kIn ty hmatch
    have asked : ∀ {Q : Value → Shared → Prop} {E : Value → Shared → Prop}, Q c { t with heap := h3 } → wpAny (model X.prog X.w) (X.A.mark (some (.ref a))) (eval (.Name x np) X.env) Q E { t with heap := h3 } := fun {Q E} q => by
      rcases hc with ⟨hg, hdb, hm | ⟨hm, hv, hne⟩⟩
      · exact ld_glob (in_suite (a := a) J3) hg hm q hdb
      · exact ld_blt (in_suite (a := a) J3) hg hm hv q hne hdb
    refine asked (mt.here ?_)
    refine codeAny_handlers_suite_as (HandSPX.lands_againZ fl3 fun h4 fl4 up4 => ?_)
    have J4 : Inv X pins σ1 (upd H1 a (ExcHO cls d a)) { t with heap := h4 } := land_kept J nb fl4.1 ((up.trans up3).trans up4) os ag na fl4.2.1 fl4.there
    refine store_ok (X := X.suite a (X.pn ++ pins)) (v := .ref a) (in_suite (a := a) J4) hN hi (.inl hln) rfl (fun s5 S5 => ?_) (.inr hln)
    refine wpAny_mono ((hsu a (X.pn ++ pins)).run [] s5 _ _ _ S5 (hgo a na)) (fun f s6 q => ?_) (fun _ _ z => z.elim)
    have leave : ∀ {σ6 : L2.St} {H6 : Hp} {pn6 : List (Addr × Obj)} {R : Shared → Prop}, Inv (X.suite a (X.pn ++ pins)) pn6 σ6 H6 s6 → (∀ s7, Inv X pins (σ6.set i none) H6 s7 → R s7) →
        wpAny (model X.prog X.w) X.A (do bindName X.env n .none; unbindBehindTheSuite X.env n pos2) (fun _ s7 => R s7) X.xe s6 := fun S6 r => gone_ok (out_suite S6 ok) hN hi hln r
    cases f with
    | next => obtain ⟨σ6, H6, S6, q⟩ := q; exact leave S6 fun s7 J7 => ⟨_, _, J7, q⟩
    | brk => obtain ⟨σ6, H6, S6, q⟩ := q; exact leave S6 fun s7 J7 => ⟨_, _, J7, q⟩
    | cont => obtain ⟨σ6, H6, S6, q⟩ := q; exact leave S6 fun s7 J7 => ⟨_, _, J7, q⟩
    | ret u => obtain ⟨v6, σ6, H6, S6, r6, q⟩ := q; exact leave S6 fun s7 J7 => ⟨_, _, _, J7, r6, q⟩
  · cases f with
    | next => obtain ⟨σ1, H1, J, q⟩ := q; exact wpAny_execs_nil ⟨σ1, H1, J.ofTry ok, q⟩
    | brk => obtain ⟨σ1, H1, J, q⟩ := q; exact ⟨σ1, H1, J.ofTry ok, q⟩
    | cont => obtain ⟨σ1, H1, J, q⟩ := q; exact ⟨σ1, H1, J.ofTry ok, q⟩
    | ret u => obtain ⟨v, σ1, H1, J, r, q⟩ := q; exact ⟨v, σ1, H1, J.ofTry ok, r, q⟩
end
end
end MP

open PySem PySem.Spec L2
namespace MP
/-! ### the program's own refusals -/
def veB : List Value := [.type "ValueError", .type "Exception", .type "BaseException", .type "object"]
structure ClsOk (K : PySem.W.Frag) (mg : Str → Option Value) (x : Str) (C : Addr) : Prop where
  g : mg x = some (.ref C)
  kp : PySem.W.keepIn K (.ref C) = true
  ex : PySem.W.excIn K C veB "ValueError.__new__" = true
  sb : PySem.W.subIn K (.ref C) (.type "BaseException") = some true
  ty : PySem.W.typeIn K (.ref C) = some (.type "type")
  ec : ExcC K C
def mRaise (c : EC) : M Fl := fun E => .ex ⟨c, none⟩ E
def mTry (S : EC → Bool) (i j : Nat) (m : M Fl) : M Fl := fun E => match m E with
  | .ex x E1 => if S x.c = true ∧ x.row.isNone = true ∧ isFree E1 i = true ∧ isFree E1 j = true then .ok .nx (((E1.set i (.exc x)).set j (.exc x)).set i .un) else .no
  | r => r
section
variable {K : PySem.W.Frag} {cl : Cl} {C : Ctx} {F : Hp} {ρ : Own} {E : SEnv} {T : List (V × Ret)} {σ : L2.St} {H : Hp} {i : Nat}
theorem RelF.wipe {s : Slot} (R : RelF K cl C F ρ E T σ H) (e : E[i]? = some s) (hs : s.free = true) : RelF K cl C F ρ (E.set i .un) T (σ.set i none) H :=
  { len := by simpa using R.len, f0 := R.f0, fh := R.fh, h0 := R.h0, hf := R.hf, tb := R.tb, nt := R.nt, tm := R.tm,
    sl := fun k w u e1 e2 => by
      rcases set_cases e2 with ⟨rfl, rfl, _⟩ | ⟨n, e2⟩
      · trivial
      · rw [List.getElem?_set_ne (Ne.symm n)] at e1
        exact R.sl k w u e1 e2,
    ln := fun k q e1 => by
      obtain ⟨o, g1, g2⟩ := R.ln k q e1
      have n : k ≠ i := fun z => by subst z; rw [e] at g1; cases g1; cases hs
      exact ⟨o, by rw [List.getElem?_set_ne (Ne.symm n)]; exact g1, by rw [List.getElem?_set_ne (Ne.symm n)]; exact g2⟩ }
end
theorem isFree_at {E : SEnv} {i : Nat} (h : isFree E i = true) : ∃ s, E[i]? = some s ∧ s.free = true := by
  unfold isFree at h
  split at h
  · rename_i s e; exact ⟨s, e, h⟩
  · cases h
theorem isFree_set {E : SEnv} {i j : Nat} {s : Slot} (h : isFree E j = true) (hs : s.free = true) : isFree (E.set i s) j = true := by
  obtain ⟨t, e, ht⟩ := isFree_at h
  unfold isFree
  by_cases n : i = j
  · subst n
    rw [List.getElem?_set_self (List.getElem?_eq_some_iff.mp e).1]; exact hs
  · rw [List.getElem?_set_ne n, e]; exact ht
section
variable {X : Cx} {cl : Cl} {W : WX} {pos pos2 : Pos} {m : M Fl}
theorem den_raise (c : EC) {x t : Str} {j : Nat} {p p2 : Pos} (o : ClsOk X.K X.mg x (cl c)) (hc : X.calm = true) (tk : Takes X W) (hg : Gl X x) (hdb : (x == ("__debug__" : Str)) = false := by decide) :
    PS X (.Raise (some (.Call (.Name x p) [.Constant (.str t) j p2] [] pos)) none pos2) (tMS X.K cl W (mRaise c)) :=
  PS.imp (ps_raise hc tk (pmk_own PySem.F.excBase_ValueError o.ex o.g o.kp (raises_own o.sb o.ty) hg hdb)) fun D σ H h => by
    obtain ⟨C, E, T, R, h⟩ := h
    exact h none σ H R rfl
theorem den_try (S : EC → Bool) (i j : Nat) {x n y : Str} {np p1 p2 p3 : Pos} {body : List Stmt} {c : Value} (hs : X.stack = X.env :: X.outer) (hf : X.env.frame = some X.env.locals) (hN : X.N.Nodup) (hc : Names X x c)
    (hS : ∀ e, S e = true → PySem.W.exmOne X.K (.ref (cl e)) c = some true)
    (hb : ∀ (W : WX) (pn : List (Addr × Obj)) (xe : Value → Shared → Prop), Takes (X.tr pn xe) W → PassesOwn (model X.prog X.w) X.A X.env xe → PSs (X.tr pn xe) body (tMS X.K cl W m))
    (hi : X.N[i]? = some n := by rfl) (hj : X.N[j]? = some y := by rfl) (hln : X.env.kindOf n = some .local := by rfl) (hv : Vis X.env.scope n := by first | exact Or.inl rfl | exact Or.inr (Or.inl rfl) | exact Or.inr (Or.inr rfl)) (hd : (n == ("__debug__" : Str)) = false := by decide) (hcd : (n == ("__classdict__" : Str)) = false := by decide)
    (hx : Loc X.env.scope y := by first | exact Or.inl rfl | exact Or.inr rfl) (hsw : swapsWith (.Name n p2) (some (.Name y p1)) p3.line X.env = pure false := by rfl) (hfn : X.fn y = true ∨ X.env.scope.names.lookup y = some .local := by first | exact .inl rfl | exact .inr rfl) :
    PS X (.Try body [.ExceptHandler (some (.Name x np)) (some n) [.Assign [.Name y p1] (.Name n p2) p3] pos2] [] [] pos) (tMS X.K cl W (mTry S i j m)) :=
  PS.imp (ps_keep (tb := fun W => tMS X.K cl W m) hs hf hN hi hln hc hb fun a pn => pss_one (ps_set (X := X.suite a pn) hN hj hx (pe_var (X := X.suite a pn) hi hv hd hcd) hsw hfn)) fun D σ H h => by
    obtain ⟨C, E, T, R, h⟩ := h
    refine ⟨C, E, T, R, ?_⟩
    unfold mTry at h
    cases q : m E with
    | no => rw [q] at h; exact h.elim
    | ok fl E1 => rw [q] at h; exact h
    | ex x E1 =>
      rw [q] at h
      dsimp only at h
      split at h
      case isFalse => exact h.elim
      rename_i hh
      obtain ⟨h1, h2, h3, h4⟩ := hh
      intro d σ1 H1 R1 hd1
      have hrow : x.row = none := by simpa using h2
      have hd2 : d = none := by unfold ExD at hd1; rw [hrow] at hd1; exact hd1
      subst hd2
      refine ⟨hS _ h1, fun a na => ?_⟩
      obtain ⟨F, ρ, RF⟩ := R1
      obtain ⟨si, ei, fi⟩ := isFree_at h3
      have hil : i < σ1.length := by rw [← RF.len]; exact (List.getElem?_eq_some_iff.mp ei).1
      refine ⟨.ref a, List.getElem?_set_self hil, ?_⟩
      refine h _ _ ?_
      obtain ⟨R2, f2⟩ := RF.lay na (ExcHO (.ref (cl x.c)) none a)
      have hex : ExcOk cl (upd F a (ExcHO (.ref (cl x.c)) none a)) a x := by
        unfold ExcOk
        rw [hrow]
        exact upd_same
      have R3 := R2.put_slot (i := i) (v := .ref a) (s' := .exc x) ei fi (L2.Same.refl _) R2.fh R2.hf R2.tb.2 (fun _ _ _ _ h => .inr h) ⟨a, rfl, hex⟩
      obtain ⟨sj, ej, fj⟩ := isFree_at (isFree_set (i := i) (s := .exc x) h4 rfl)
      have R4 := R3.put_slot (i := j) (v := .ref a) (s' := .exc x) ej fj (L2.Same.refl _) R3.fh R3.hf R3.tb.2 (fun _ _ _ _ h => .inr h) ⟨a, rfl, hex⟩
      obtain ⟨sk, ek, fk⟩ := isFree_at (isFree_set (i := j) (s := .exc x) (isFree_set (i := i) (s := .exc x) h3 rfl) rfl)
      exact (R4.wipe ek fk).rel
end
@[simp] theorem e_raise (c : EC) (E : SEnv) : mRaise c E = .ex ⟨c, none⟩ E := rfl
@[simp] theorem e_try (S : EC → Bool) (i j : Nat) (m : M Fl) (E : SEnv) : mTry S i j m E = match m E with
  | .ex x E1 => if S x.c = true ∧ x.row.isNone = true ∧ isFree E1 i = true ∧ isFree E1 j = true then .ok .nx (((E1.set i (.exc x)).set j (.exc x)).set i .un) else .no
  | r => r := rfl
end MP

open PySem PySem.Spec L2
namespace MP
/-! ### isinstance of a refusal that is kept, or of none -/
section
variable {X : Cx}
theorem exc_at {pins : List (Addr × Obj)} {σ : L2.St} {H : Hp} {s : Shared} {a D : Addr} (I : Inv X pins σ H s) (h : H a = some (ExcHO (.ref D) none a)) : ∃ oe, PySem.W.InstAt s.heap a oe D none := by
  obtain ⟨⟨oe, vs, e1, hz, hd⟩, _⟩ := (show ObjOk X.prog X.w H s.heap a (ExcHO (.ref D) none a) from I.hok a _ h)
  obtain ⟨oc, od, dt, sl⟩ := oe
  obtain ⟨z1, z2⟩ := hz
  simp only at z1 z2 hd
  subst z1 z2 hd
  exact ⟨_, e1, rfl, rfl, trivial⟩
def rIsX (K : PySem.W.Frag) : List V → Hp → VK → Prop := fun xs H Q => ∃ (a D : Addr) (c : V) (u : Value) (b : Bool), xs = [.ref a, c] ∧ H a = some (ExcHO (.ref D) none a) ∧ ExcC K D ∧ ClsV c u ∧ PySem.W.kitOne K (.ref D) u = some b ∧ Q (.bl b) H
def rIsXT (K : PySem.W.Frag) : List V → Hp → VK → Prop := fun xs H Q => ∃ (a D tp : Addr) (cs : List V) (us : List Value) (b : Bool), xs = [.ref a, .ref tp] ∧ H a = some (ExcHO (.ref D) none a) ∧ ExcC K D ∧ H tp = some (.tup cs) ∧ Paired ClsV cs us ∧ PySem.W.kitAny K (.ref D) us = some b ∧ Q (.bl b) H
theorem call_isX : CallR X (.builtin "isinstance") (rIsX X.K) := by
  rintro pins s σ H xs us Q I r ⟨a, D, c, u, b, rfl, ha, C, k, e, q⟩
  obtain ⟨u1, u2, rfl, r1, r2⟩ := Vals.two r
  cases r1
  cases k.eq r2
  obtain ⟨oe, J⟩ := exc_at I ha
  exact PySem.W.kia_one (PySem.W.handS_kitx_exc C.hg C.hk C.hs C.hd C.ha C.hn C.ht C.hm) I.kIn J e (fun z => nomatch z) fun tk => ⟨.bl b, H, I.tok tk, rfl, q⟩
theorem call_isXT : CallR X (.builtin "isinstance") (rIsXT X.K) := by
  rintro pins s σ H xs us Q I r ⟨a, D, tp, cs, ws, b, rfl, ha, C, hT, k, e, q⟩
  obtain ⟨u1, u2, rfl, r1, r2⟩ := Vals.two r
  cases r1
  cases r2
  obtain ⟨oe, J⟩ := exc_at I ha
  obtain ⟨_, its, rv, o, h1, h2, n, h3⟩ := (show ObjOk X.prog X.w H s.heap tp (.tup cs) from I.hok tp _ hT)
  cases ClsV.all k rv
  obtain ⟨oc, od, dt, sl⟩ := o
  simp only at h2 h3
  subst h2 h3
  exact PySem.W.kia_tup (PySem.W.handS_kitx_exc C.hg C.hk C.hs C.hd C.ha C.hn C.ht C.hm) I.kIn J h1 e (fun z => nomatch z) fun tk => ⟨.bl b, H, I.tok tk, rfl, q⟩
end
def mIs (t : EC → Option Bool) (j : Nat) : M Ret := fun E => match E[j]? with
  | some (.exc x) => if x.row.isNone = true then (match t x.c with
    | some b => .ok (.val (.bool b)) E
    | none => .no) else .no
  | some (.val .none) => .ok (.val (.bool false)) E
  | _ => .no
section
variable {X : Cx} {cl : Cl} {W : WX} {pos : Pos}
/-- what the variable holds -/
theorem is_run {K : PySem.W.Frag} {t : EC → Option Bool} {j : Nat} {σ : L2.St} {H : Hp} {Q : VK} (h : tM K cl W (mIs t j) σ H Q) :
    (∃ a x b, σ[j]? = some (some (.ref a)) ∧ H a = some (ExcHO (.ref (cl x)) none a) ∧ t x = some b ∧ Q (.bl b) H ∧ ∀ p ho, H p = none → Q (.bl b) (upd H p ho)) ∨ (σ[j]? = some (some .non) ∧ Q (.bl false) H ∧ ∀ p ho, H p = none → Q (.bl false) (upd H p ho)) := by
  obtain ⟨C, E, T, ⟨F, ρ, R⟩, h⟩ := h
  unfold mIs at h
  split at h
  · rename_i x e
    split at h
    case isFalse => exact h.elim
    rename_i hr
    split at h
    case h_2 => exact h.elim
    rename_i b eb
    obtain ⟨w, hw⟩ := slot_there R e
    obtain ⟨a, rfl, hx⟩ := R.sl j _ _ hw e
    have hrow : x.row = none := by simpa using hr
    unfold ExcOk at hx
    rw [hrow] at hx
    refine .inl ⟨a, x.c, b, hw, R.fh _ _ hx, eb, h (.bl b) H (R.push_val (.bl b)).rel trivial, fun p ho hp => ?_⟩
    obtain ⟨R2, _⟩ := R.lay hp ho
    exact h (.bl b) _ (R2.push_val (.bl b)).rel trivial
  · rename_i e
    obtain ⟨w, hw⟩ := slot_there R e
    obtain ⟨y, rfl, hx⟩ := R.sl j _ _ hw e
    cases hx
    refine .inr ⟨hw, h (.bl false) H (R.push_val (.bl false)).rel trivial, fun p ho hp => ?_⟩
    obtain ⟨R2, _⟩ := R.lay hp ho
    exact h (.bl false) _ (R2.push_val (.bl false)).rel trivial
  · exact h.elim
theorem den_is1 (t : EC → Option Bool) (j : Nat) {n : Str} {e2 : Expr} {p p1 : Pos} {v : V} {u : Value} (hg : Gl X "isinstance") (hm : X.mg "isinstance" = none) (h2 : PE X e2 (tC v)) (k : ClsV v u)
    (ht : ∀ c b, t c = some b → ExcC X.K (cl c) ∧ PySem.W.kitOne X.K (.ref (cl c)) u = some b) (hz : PySem.W.kitOne X.K (.type "NoneType") u = some false)
    (hN : X.N[j]? = some n := by rfl) (hv : Vis X.env.scope n := by first | exact Or.inl rfl | exact Or.inr (Or.inl rfl) | exact Or.inr (Or.inr rfl)) (hd : (n == ("__debug__" : Str)) = false := by decide) (hcd : (n == ("__classdict__" : Str)) = false := by decide)
    (hs1 : starEach [.Name n p1, e2] X.env = (false, eval (.Name n p1) X.env) :: starEach [e2] X.env := by rfl) (hs2 : starEach [e2] X.env = (false, eval e2 X.env) :: starEach [] X.env := by rfl) (hpl : (backTo pos (starEach [e2] X.env)).any (·.1) = false := by rfl) :
    PE X (.Call (.Name "isinstance" p) [.Name n p1, e2] [] pos) (tM X.K cl W (mIs t j)) :=
  PE.imp (pe_callB (call_isX.or call_isi) hg hm PyProof.Rows.boot_isinstance (pa_cons (pe_var hN hv hd hcd) (pa_cons h2 pa_nil hs2) hs1) (by decide) (by decide) hs1 hpl) fun σ H Q h => by
    rcases is_run h with ⟨a, x, b, e1, e2, e3, q, _⟩ | ⟨e1, q, _⟩
    · obtain ⟨g1, g2⟩ := ht x b e3
      exact ⟨.ref a, e1, .inl ⟨a, cl x, v, u, b, rfl, e2, g1, k, g2, q⟩⟩
    · exact ⟨.non, e1, .inr ⟨.non, v, .type "NoneType", u, false, rfl, k, .base .non, hz, q⟩⟩
/-- names of classes -/
def tCC (vs : List V) : TA := fun _ H Q => Q vs H
theorem pa_cc {e : Expr} {es : List Expr} {v : V} {vs : List V} (h : PE X e (tC v)) (hs : PA X es (tCC vs)) (hst : starEach (e :: es) X.env = (false, eval e X.env) :: starEach es X.env := by rfl) : PA X (e :: es) (tCC (v :: vs)) := pa_cons h hs hst
theorem pa_c0 : PA X [] (tCC []) := pa_nil
theorem den_isT (t : EC → Option Bool) (j : Nat) {n : Str} {es : List Expr} {p p1 p2 : Pos} {k1 : Nat} {vs : List V} {us : List Value} (hg : Gl X "isinstance") (hm : X.mg "isinstance" = none) (h2 : PA X es (tCC vs)) (k : Paired ClsV vs us) (hlen : vs.length ≤ 100)
    (ht : ∀ c b, t c = some b → ExcC X.K (cl c) ∧ PySem.W.kitAny X.K (.ref (cl c)) us = some b) (hz : PySem.W.kitAny X.K (.type "NoneType") us = some false)
    (hN : X.N[j]? = some n := by rfl) (hv : Vis X.env.scope n := by first | exact Or.inl rfl | exact Or.inr (Or.inl rfl) | exact Or.inr (Or.inr rfl)) (hd : (n == ("__debug__" : Str)) = false := by decide) (hcd : (n == ("__classdict__" : Str)) = false := by decide)
    (hs1 : starEach [.Name n p1, .Tuple es k1 p2] X.env = (false, eval (.Name n p1) X.env) :: starEach [.Tuple es k1 p2] X.env := by rfl) (hs2 : starEach [.Tuple es k1 p2] X.env = (false, eval (.Tuple es k1 p2) X.env) :: starEach [] X.env := by rfl) (hpl : (backTo pos (starEach [.Tuple es k1 p2] X.env)).any (·.1) = false := by rfl) :
    PE X (.Call (.Name "isinstance" p) [.Name n p1, .Tuple es k1 p2] [] pos) (tM X.K cl W (mIs t j)) :=
  PE.imp (pe_callB (call_isXT.or call_isiT) hg hm PyProof.Rows.boot_isinstance (pa_cons (pe_var hN hv hd hcd) (pa_cons (pe_tup h2) pa_nil hs2) hs1) (by decide) (by decide) hs1 hpl) fun σ H Q h => by
    have hsz : vs.length ≤ sizeLine := by rw [sizeLine_eq]; omega
    rcases is_run h with ⟨a, x, b, e1, e2, e3, _, q⟩ | ⟨e1, _, q⟩
    · obtain ⟨g1, g2⟩ := ht x b e3
      refine ⟨.ref a, e1, hsz, fun tp na => .inl ⟨a, cl x, tp, vs, us, b, rfl, ?_, g1, upd_same, k, g2, q tp _ na⟩⟩
      rw [upd_ne (ne_of_none e2 na)]; exact e2
    · exact ⟨.non, e1, hsz, fun tp na => .inr ⟨.non, tp, vs, .type "NoneType", us, false, rfl, upd_same, k, .base .non, hz, q tp _ na⟩⟩
end
@[simp] theorem e_is (t : EC → Option Bool) (j : Nat) (E : SEnv) : mIs t j E = match E[j]? with
  | some (.exc x) => if x.row.isNone = true then (match t x.c with
    | some b => .ok (.val (.bool b)) E
    | none => .no) else .no
  | some (.val .none) => .ok (.val (.bool false)) E
  | _ => .no := rfl
/-! ### a law's answer, whatever its refusals are called -/
def spOk (K : PySem.W.Frag) (tT : List (Addr × Str)) (g : List D → FR) : Sp := fun vs H Q Ex => ∃ F0 ds, TOk tT F0 H ∧ Same F0 H ∧ DpAll K F0 vs ds ∧ ∃ r, g ds = .ok r ∧ ∀ v H' F', Stp tT H H' → Same F0 F' → Same F' H' → (∀ p o, H p = some o → F' p = F0 p) → RetV K F' H H' v r → Q v H'
theorem spOk_of {K : PySem.W.Frag} {cl : Cl} {g : List D → FR} {vs : List V} {H : Hp} {Q : VK} {Ex : XK} (h : spOk K cl.T g vs H Q Ex) : spM K cl g vs H Q Ex := by
  obtain ⟨F0, ds, h0, h1, h2, r, e, h3⟩ := h
  exact ⟨F0, ds, h0, h1, h2, by rw [e]; exact h3⟩
theorem end_ok {K : PySem.W.Frag} {T : List (Addr × Str)} {g : List D → FR} {H : Hp} {a : Addr} {ns : List Int} {Ex : XK} (t : LamX.Tabs T H) (h : SqL K H a (ns.map V.int)) (hg : g [.list (ns.map PyData.int)] = .ok (.val (.bool true))) :
    spOk K T g [.ref a] H (fun v _ => v = .bl true) Ex := by
  refine ⟨noT T H, [.list (ns.map PyData.int)], tok_noT t, noT_sub, .cons (.lst (sql_noT t h) (dps_of_ints ns)) .nil, _, hg, ?_⟩
  intro v H' F' h1 h2 h3 h4 hv
  cases (show Dp K F' v (.bool true) from hv)
  rfl
theorem boot_VE : bootBuiltins "ValueError" = some (.type "ValueError") := by decide +kernel
end MP

open PySem PySem.Spec L2
namespace MP
/-! ### several targets for a list -/
def gLstF (n : Nat) (gs : List D → SEnv → Option SEnv) : MG := fun r E => match dat E r with
  | some (.list ds) => if ds.length = n then gs ds E else none
  | _ => none
section
variable {X : Cx} {cl : Cl} {W : WX} {pos : Pos}
theorem den_tlst {es : List Expr} {k n : Nat} {gs : List D → SEnv → Option SEnv} (hc : X.calm = true) (h : PGs X es (tMGs X.K cl gs)) (hn : (assignEach es X.env).length = n := by rfl) (hst : (assignEach es X.env).findIdx? (·.1) = none := by rfl) : PG X (.Tuple es k pos) (tMG X.K cl (gLstF n gs)) :=
  PG.imp (pg_lst hc h hn hst) fun v σ H Q h => by
    obtain ⟨C, E, T, r, ⟨F, ρ, R⟩, b, E', e, h⟩ := h
    unfold gLstF at e
    split at e
    · rename_i ds e1
      split at e
      · rename_i hl
        obtain ⟨a, xs, rfl, g1, g2⟩ := dpt_lst R.fh (R.dat (k := T.length) (by simp) b e1)
        exact ⟨a, xs, rfl, g1, (dps_len g2).trans hl, C, E, T, ds, (R.drop.push_vals g2).rel, dps_len g2, E', e, h⟩
      · cases e
    · cases e
/-! ### how often in a list, flat items -/
def rCnt (K : PySem.W.Frag) : V → List V → Hp → VK → Prop := fun x xs H Q => ∃ (a : Addr) (ys : List V) (y : V), x = .ref a ∧ xs = [y] ∧ SqL K H a ys ∧ flatV y = true ∧ ys.all flatV = true ∧ Q (.int (ys.countP fun z => eqV z y : Nat)) H
theorem count_vals {y : V} : ∀ {ys : List V} {us : List Value}, Vals ys us → ys.all flatV = true → us.countP (eqU y) = ys.countP fun z => eqV z y
  | _, _, .nil, _ => rfl
  | _, _, .cons r t, f => by
    rw [List.all_cons, Bool.and_eq_true] at f
    rw [List.countP_cons, List.countP_cons, count_vals t f.2, eqU_of r f.1]
theorem mt_count : MtR X "list.count" (rCnt X.K) := by
  rintro pins s σ H x xs v us Q I rx rxs ⟨a, ys, y, rfl, rfl, hs, fy, fys, q⟩
  cases rx
  obtain ⟨u, rfl, ru⟩ := rxs.one
  obtain ⟨its, rv, ⟨⟨cls, dd, data, sl⟩, n, ho, hc, hdn, hd⟩, hlen⟩ := I.list hs
  simp only at hc hd
  subst hc hd
  refine call_meets PySem.F.slot_list_count ⟨_, ho, rfl⟩ PySem.F.entry_list_count (PySem.F.args_list_count_2 _ _) (SeqAt.list_countAt a its.toArray n dd sl u (eqU y)) ⟨ho, fun w hw => mem_eqAt ru fy rv fys w (by simpa using hw), ?_⟩
  have ec : its.toArray.toList.countP (eqU y) = ys.countP fun z => eqV z y := count_vals rv fys
  rw [ec]
  exact ⟨.int (ys.countP fun z => eqV z y : Nat), H, I.tok _, ⟨s.toks, rfl⟩, q⟩
end
def countF : D → List D → Option Rv := fun d as => match d, as with
  | .list ds, [x] => if flatD x = true ∧ ds.all flatD = true then some (.val (.int (ds.countP fun z => eqD z x : Nat))) else none
  | _, _ => none
theorem countP_dps {K : PySem.W.Frag} {F : Hp} {y : V} {x : D} (hy : Dp K F y x) (fx : flatD x = true) : ∀ {vs : List V} {ds : List D}, DpAll K F vs ds → ds.all flatD = true → (vs.countP fun z => eqV z y) = ds.countP fun z => eqD z x
  | _, _, .nil, _ => rfl
  | _, _, .cons h hs, f => by
    rw [List.all_cons, Bool.and_eq_true] at f
    rw [List.countP_cons, List.countP_cons, countP_dps hy fx hs f.2, eq_dp h hy f.1 fx]
theorem count_ok {K : PySem.W.Frag} : BmR K (rCnt K) countF := fun F H x xs a as rv Q hs ha hb e g => by
  unfold countF at e
  split at e
  · split at e
    · rename_i hl
      cases e
      obtain ⟨p, us, rfl, h1, h2⟩ := dpt_lst hs ha
      obtain ⟨y, rfl, hy⟩ := dpts1 hb
      have hy' := flat_dpt hy hl.1
      refine ⟨p, us, y, rfl, rfl, h1, flat_dp hy' hl.1, flat_dps h2 hl.2, ?_⟩
      rw [countP_dps hy' hl.1 h2 hl.2]
      exact g.int
    · cases e
  · cases e
@[simp] theorem e_gLst (n : Nat) (gs : List D → SEnv → Option SEnv) (r : Ret) (E : SEnv) : gLstF n gs r E = match dat E r with
  | some (.list ds) => if ds.length = n then gs ds E else none
  | _ => none := rfl
end MP

open PySem PySem.Spec L2
namespace MP
/-! ### is None of what a name holds, as a test -/
section
variable {X : Cx} {cl : Cl} {W : WX} {pos : Pos}
theorem den_isNEt (i : Nat) {x : Str} {j : Nat} {p q : Pos} (hN : X.N[i]? = some x := by rfl) (hv : Vis X.env.scope x := by first | exact Or.inl rfl | exact Or.inr (Or.inl rfl) | exact Or.inr (Or.inr rfl)) (hd : (x == ("__debug__" : Str)) = false := by decide)
    (hcd : (x == ("__classdict__" : Str)) = false := by decide) : PT X (.Compare (.Name x q) [.Is] [.Constant .none j p] pos) (tMT X.K cl W (mBl (mIsNE i))) := pt_ofC (pc_isN (pe_var hN hv hd hcd)) (fun σ H Q h => by
  obtain ⟨C, E, T, ⟨F, ρ, R⟩, h⟩ := h
  unfold mIsNE at h
  split at h
  · rename_i x e
    obtain ⟨w, hw⟩ := slot_there R e
    obtain ⟨a, rfl, _⟩ := R.sl i w _ hw e
    exact ⟨.ref a, hw, h (.bl false) H (R.push_val (.bl false)).rel trivial⟩
  · rename_i d e
    obtain ⟨w, hw⟩ := slot_there R e
    obtain ⟨a, rfl, hd⟩ := R.sl i w _ hw e
    refine ⟨a, hw, ?_⟩
    show Q (.bl (decide (a = .non))) H
    rw [dpt_non (dpt_of hd R.fh)]
    exact h _ H (R.push_val (.bl _)).rel trivial
  · exact h.elim) rfl
theorem den_notNEt (i : Nat) {x : Str} {j : Nat} {p q : Pos} (hN : X.N[i]? = some x := by rfl) (hv : Vis X.env.scope x := by first | exact Or.inl rfl | exact Or.inr (Or.inl rfl) | exact Or.inr (Or.inr rfl)) (hd : (x == ("__debug__" : Str)) = false := by decide)
    (hcd : (x == ("__classdict__" : Str)) = false := by decide) : PT X (.Compare (.Name x q) [.IsNot] [.Constant .none j p] pos) (tMT X.K cl W (mBl (mNotNE i))) := pt_ofC (pc_notN (pe_var hN hv hd hcd)) (fun σ H Q h => by
  obtain ⟨C, E, T, ⟨F, ρ, R⟩, h⟩ := h
  unfold mNotNE at h
  split at h
  · rename_i x e
    obtain ⟨w, hw⟩ := slot_there R e
    obtain ⟨a, rfl, _⟩ := R.sl i w _ hw e
    exact ⟨.ref a, hw, h (.bl true) H (R.push_val (.bl true)).rel trivial⟩
  · rename_i d e
    obtain ⟨w, hw⟩ := slot_there R e
    obtain ⟨a, rfl, hd⟩ := R.sl i w _ hw e
    refine ⟨a, hw, ?_⟩
    show Q (.bl (!decide (a = .non))) H
    rw [dpt_non (dpt_of hd R.fh)]
    exact h _ H (R.push_val (.bl _)).rel trivial
  · exact h.elim) rfl
end
@[simp] theorem e_isNE (i : Nat) (E : SEnv) : mIsNE i E = match E[i]? with
  | some (.exc _) => .ok (.val (.bool false)) E
  | some (.val d) => .ok (.val (.bool (isNon d))) E
  | _ => .no := rfl
@[simp] theorem e_notNE (i : Nat) (E : SEnv) : mNotNE i E = match E[i]? with
  | some (.exc _) => .ok (.val (.bool true)) E
  | some (.val d) => .ok (.val (.bool (!isNon d))) E
  | _ => .no := rfl
end MP

open PySem PySem.Spec L2
namespace MP
/-! ### a, b = (x, y) of whole numbers -/
def mPar (i j : Nat) (ma : M (List Ret)) : M Fl := fun E => (ma E).bind fun rs E1 => match dats E1 rs with
  | some [.int a, .int b] => (match mStore i (.val (.int a)) E1 with
    | some E2 => (match mStore j (.val (.int b)) E2 with
      | some E3 => .ok .nx E3
      | none => .no)
    | none => .no)
  | _ => .no
section
variable {X : Cx} {cl : Cl} {W : WX} {pos : Pos} {ma : M (List Ret)}
theorem den_par (i j : Nat) {x y : Str} {a b : Expr} {px py pt : Pos} {kt k2 : Nat} {pt2 : Pos} (hc : X.calm = true) (hN : X.N.Nodup) (ha : PA X [a, b] (tMA X.K cl W ma)) (hi : X.N[i]? = some x := by rfl) (hj : X.N[j]? = some y := by rfl) (hij : i ≠ j := by decide)
    (hx : X.env.scope.names.lookup x = some .local := by rfl) (hy : X.env.scope.names.lookup y = some .local := by rfl)
    (hw : swappedStores [.Tuple [.Name x px, .Name y py] kt pt] (.Tuple [a, b] k2 pt2) X.env = pure (some [x, y]) := by rfl)
    (hs : swapsWithSole [.Tuple [.Name x px, .Name y py] kt pt] (.Tuple [a, b] k2 pt2) pos.line X.env = pure false := by rfl) :
    PS X (.Assign [.Tuple [.Name x px, .Name y py] kt pt] (.Tuple [a, b] k2 pt2) pos) (tMS X.K cl W (mPar i j ma)) := PS.imp (ps_par hc hN hi hj hij hx hy ha hw hs) fun D σ H h => by
  obtain ⟨C, E, T, R, h⟩ := h
  refine ⟨C, E, T, R, (RunS.bind h).run fun rs E1 h1 vs H1 R1 b1 => ?_⟩
  obtain ⟨F, ρ, RF⟩ := R1
  split at h1
  case h_2 => exact (h1 : False).elim
  rename_i n m q
  have hd := RF.dats rfl b1 q
  cases hd with
  | cons d1 hd =>
    cases hd with
    | cons d2 hd =>
      cases hd with
      | nil =>
        cases dpt_int d1
        cases dpt_int d2
        refine ⟨.int n, .int m, rfl, ?_⟩
        split at h1
        case h_2 => exact (h1 : False).elim
        rename_i E2 q1
        split at h1
        case h_2 => exact (h1 : False).elim
        rename_i E3 q2
        obtain ⟨F', ρ', _, R'⟩ := (RF.drop.push_val (v := V.int n) (.int n)).store trivial q1
        obtain ⟨F2, ρ2, _, R2⟩ := (R'.push_val (v := V.int m) (.int m)).store trivial q2
        exact h1 _ _ R2.rel
end
@[simp] theorem e_par (i j : Nat) (ma : M (List Ret)) (E : SEnv) : mPar i j ma E = (ma E).bind fun rs E1 => match dats E1 rs with
  | some [.int a, .int b] => (match mStore i (.val (.int a)) E1 with
    | some E2 => (match mStore j (.val (.int b)) E2 with
      | some E3 => .ok .nx E3
      | none => .no)
    | none => .no)
  | _ => .no := rfl
end MP

open PySem PySem.Spec L2
namespace MP
/-! ### enumerate of a tuple -/
section
open PySem.Sem (wp)
open PySem.AutoSeq1 (wpAny_loadPart')
theorem meets_enumT (l : Addr) (items : Array Value) (n : Nat) (dct : Option Addr) (sl : Array (Option Value)) :
    Meets (Builtin.«enumerate.__new__» ⟨[.type "enumerate", .ref l], []⟩) (fun _ R s => s.heap.get? l = some { cls := .type "tuple", dict := dct, data := .seq items n, slots := sl } ∧
      R (.ok (.ret (.ref (s.heap.push { cls := .type "tuple_iterator", data := .fields #[.ref l, .int 0 0] }).objs.size)))
        { s with heap := (s.heap.push { cls := .type "tuple_iterator", data := .fields #[.ref l, .int 0 0] }).push { cls := .type "enumerate", data := .fields #[.none, .bool false, .ref s.heap.objs.size, rawInt 0, .none, .none] } }) :=
  .of_wp fun prog w A R s h => by
    obtain ⟨hp, g, d, tk, os⟩ := s; obtain ⟨hl, h⟩ := h
    have hsub := sub_enumerate
    have hL : Heap.IsTuple (Shared.heap ⟨hp, g, d, tk, os⟩) l items := ⟨_, hl, rfl, n, rfl⟩
    wp_walk using wpAny_loadPart' hl
    refine wpAny_stack_any fun st => wpAny_pure ?_
    split
    · rename_i c _ _ _ _ _
      cases (c == Value.type "enumerate")
      · wp_walk using wpAny_loadPart' hl, wpAny_pyIter_tuple hL
        exact ⟨_, rfl, h⟩
      · wp_walk using wpAny_loadPart' hl, wpAny_pyIter_tuple hL
        exact ⟨_, rfl, h⟩
    · wp_walk using wpAny_loadPart' hl, wpAny_pyIter_tuple hL
      exact ⟨_, rfl, h⟩
end
section
variable {prog : Program} {w : World} {A : Around} {E : Value → Shared → Prop} {s : Shared}
theorem call_enumT {l : Addr} {items : Array Value} {Q : Value → Shared → Prop} (hL : s.heap.IsTuple l items)
    (h : ∀ h', IsEnum h' (s.heap.objs.size + 1) s.heap.objs.size 0 .none → h'.IsTupleIter s.heap.objs.size l 0 → h'.objs.size = s.heap.objs.size + 2 →
      (∀ b o, s.heap.get? b = some o → h'.get? b = some o) → Q (.ref (s.heap.objs.size + 1)) { s with heap := h' }) :
    wpAny (model prog w) A (call (.type "enumerate") [.ref l]) Q E s := by
  obtain ⟨⟨c, dct, dt, sl⟩, hl, hc, n, hd⟩ := hL
  replace hc : c = .type "tuple" := hc
  replace hd : dt = .seq items n := hd
  subst hc hd
  refine callType_new F.called_enumerate (by decide) (F.typeCall_enumerate_1 _) (F.newCall_enumerate_1 _) (fun obj => F.args_object_init_2 obj _) F.entry_enumerate_new
    (meets_enumT l items n dct sl) ⟨hl, ?_⟩
  have hz : (s.heap.push { cls := .type "tuple_iterator", data := .fields #[.ref l, .int 0 0] }).objs.size = s.heap.objs.size + 1 := Heap.size_push ..
  show _ ∧ _
  rw [hz]
  have he : IsEnum ((s.heap.push { cls := .type "tuple_iterator", data := .fields #[.ref l, .int 0 0] }).push
      { cls := .type "enumerate", data := .fields #[.none, .bool false, .ref s.heap.objs.size, rawInt 0, .none, .none] }) (s.heap.objs.size + 1) s.heap.objs.size 0 .none := by
    have := Heap.get?_push_size (s.heap.push { cls := .type "tuple_iterator", data := .fields #[.ref l, .int 0 0] })
      (o := { cls := .type "enumerate", data := .fields #[.none, .bool false, .ref s.heap.objs.size, rawInt 0, .none, .none] }) rfl
    rw [hz] at this; exact this
  refine ⟨⟨_, he, rfl⟩, h _ he ⟨_, Heap.get?_push_of_some _ (Heap.get?_push_size _ rfl), rfl, rfl⟩ (by rw [Heap.size_push, hz]) fun b o x => Heap.get?_push_of_some _ (Heap.get?_push_of_some _ x)⟩
end
section
variable {prog : Program} {w : World} {A : Around} {E : Value → Shared → Prop} {s : Shared}
theorem enumT_end {e it t : Addr} {items : Array Value} {i : Int} {j : Nat} {old : Value} {Q : Option Value → Shared → Prop} (hh : A.in1.handled = none)
    (he : IsEnum s.heap e it i old) (hit : s.heap.IsTupleIter it t j) (ht : s.heap.IsTuple t items) (hx : items[j]? = none)
    (hQ : ∀ h', Heap.ExtBut it s.heap h' → Q none { s with heap := h' }) : wpAny (model prog w) A (pyNext (.ref e)) Q E s := by
  have hT : s.TypeIs (.ref e) "enumerate" := ⟨_, he, rfl⟩
  unfold pyNext
  refine wpAny_bind (wpAny_attempt (wpAny_callSpecial?_slot (name := Str.ofString "__next__") hT F.slot_enumerate_next
    (wpAny_call_entry F.slot_enumerate_next hT F.entry_enumerate_next ?_ (F.args_enumerate_next_1 _))))
  show wpAny _ _ (field (.ref e) 2 >>= _) _ _ _
  refine wpAny_bind (wpAny_field he rfl (x := .ref it) rfl ?_)
  refine wpAny_bind (wpAny_nextOf_tuple_end hh hit ht hx fun h' x he' hx' => ?_)
  obtain ⟨o, ho, hc⟩ := hx'
  refine wpAny_bind (wpAny_isInstance (T := "StopIteration") (b := true) ⟨o, ho, hc⟩ isSubtype_stop ?_)
  exact wpAny_pure (hQ _ he')
end
def IteT (K : PySem.W.Frag) (a : Addr) : It :=
  ⟨fun i H => ∃ (xs : List V) (x : V), SqT K H a xs ∧ xs[i]? = some x, fun i H v H' => ∃ T x, v = .ref T ∧ H T = none ∧ H' = upd H T (.tup [.int (i : Nat), x]) ∧ ∀ xs, SqT K H a xs → xs[i]? = some x, fun i H => ∃ xs : List V, SqT K H a xs ∧ xs.length ≤ i⟩
theorem turn_enumT {P : Program} {w : World} {K : PySem.W.Frag} {elts : List Expr} {kk : Nat} {tpos : Pos} (a e it : Addr) (hae : a ≠ e) (hai : a ≠ it) :
    Turn P w K (.Tuple elts kk tpos) (IteT K a) [e, it] e (fun i h => (∃ old, IsEnum h e it ((i : Nat) : Int) old) ∧ h.IsTupleIter it a i ∧ e ≠ it) where
  mem := by simp
  obj := fun i h st b hb => by
    obtain ⟨⟨old, he⟩, ⟨o, ho, hc, hd⟩, _⟩ := st
    have e' : b = e ∨ b = it := by simpa using hb
    rcases e' with z | z
    · rw [z]; exact ⟨_, he, fun v q => nomatch q⟩
    · rw [z]; exact ⟨o, ho, fun v q => by rw [hd] at q; cases q⟩
  keep := fun i h h' st k => let ⟨⟨old, he⟩, hi, hne⟩ := st; ⟨⟨old, k e (by simp) _ he⟩, hi.at fun o q => k it (by simp) o q, hne⟩
  item := by
    intro X hP hw hK hc i pins s σ H E I hf st hg
    subst hP hw hK
    obtain ⟨⟨old, he⟩, hit, hne⟩ := st
    obtain ⟨xs, x, hq, hx⟩ := hg
    obtain ⟨its, rv, p, hz⟩ := I.tuple hq
    obtain ⟨u, hu, ru⟩ := rv.get hx
    have hlt := List.getElem?_eq_some_iff.mp hu |>.1
    have hel : e < s.heap.objs.size := Heap.lt_size he
    have hil : it < s.heap.objs.size := by obtain ⟨_, q, _⟩ := hit; exact Heap.lt_size q
    have D := Draws.tuple (prog := X.prog) (w := X.w) (A := X.A.in1) (show X.A.in1.handled = none from I.ok.hd hc) it a hai its.toArray
    refine wpAny_pyNext_enum_itemD D he ⟨hit, (show s.heap.IsTuple a its.toArray from p)⟩ (by simpa using hlt) hne (by simp [hne, Ne.symm hae]) fun y h' tk hy ho hst hT hsz hk => ?_
    obtain ⟨hit', htup'⟩ := hst
    have hyu : y = u := by
      have hy' : its[i]? = some y := by simpa using hy
      rw [hu] at hy'
      exact (Option.some.inj hy').symm
    subst hyu
    refine ⟨_, rfl, wpAny_letOwnedTupleGo_enum (s := { s with heap := h', toks := tk + 1 }) ho fun h'' he' sb => ?_⟩
    have hT2 : h''.get? s.heap.objs.size = some { cls := .type "tuple", data := .seq #[.int i tk, y] } := (sb.2 _ (Nat.ne_of_gt hel)).trans hT
    have new : ObjOk X.prog X.w (upd H s.heap.objs.size (.tup [.int (i : Nat), x])) h'' s.heap.objs.size (.tup [.int (i : Nat), x]) :=
      ⟨by show 2 ≤ sizeLine; decide, [.int i tk, y], .cons ⟨_, rfl⟩ (.cons ru .nil), ⟨_, hT2, rfl, _, rfl⟩⟩
    have I1 : Inv X pins σ (upd H s.heap.objs.size (.tup [.int (i : Nat), x])) { s with heap := h'', toks := tk + 1 } :=
      I.turnedNew (ch := [e, it]) (fun b ob hb q => (sb.2 b (fun z => hb (by simp [z]))).trans (hk b ob (fun z => hb (by simp [z])) (fun z => hb (by simp [z])) q)) hf (Nat.le_refl _) new
    refine ⟨.ref s.heap.objs.size, _, I1, rfl, ⟨_, x, rfl, I.hok.fresh (Nat.le_refl _), rfl, fun ys hy => by rw [I.tuple_inj hy hq]; exact hx⟩, ⟨⟨y, ?_⟩, hit'.at fun o q => (sb.2 it (Ne.symm hne)).trans q, hne⟩, fun b hb => ?_⟩
    · have e1 : ((i + 1 : Nat) : Int) = (i : Int) + 1 := by omega
      rw [e1]; exact he'
    · have hb' : b < s.heap.objs.size := by
        have e' : b = e ∨ b = it := by simpa using hb
        rcases e' with z | z
        · rw [z]; exact hel
        · rw [z]; exact hil
      rw [upd_ne (Nat.ne_of_lt hb')]
      exact (hf b hb).1
  done := by
    intro X hP hw hK hc i pins s σ H E I hf st hg
    subst hP hw hK
    obtain ⟨⟨old, he⟩, hit, hne⟩ := st
    obtain ⟨xs, hq, hx⟩ := hg
    obtain ⟨its, rv, p, hz⟩ := I.tuple hq
    obtain ⟨f0, f1, f2, f3, f4, f5⟩ := hf it (by simp)
    have hl := rv.length
    exact enumT_end (show X.A.in1.handled = none from I.ok.hd hc) he hit (show s.heap.IsTuple a its.toArray from p) (by simp; omega) fun h' eb => ⟨rfl, I.turned (t' := s.toks) (fun b o hb q => eb b o hb q) f0 f1 f3 f4 f5⟩
  self := fun A i s Q E st h => let ⟨⟨_, he⟩, _⟩ := st; wpAny_pyIter_enum he h
def iEnumT (K : PySem.W.Frag) (ta : TA) : TI := fun σ H R => ta σ H fun vs H1 => ∃ a xs, vs = [.ref a] ∧ SqT K H1 a xs ∧ R (IteT K a) H1
theorem pi_enumT {X : Cx} {e : Expr} {ta : TA} {p pos tpos : Pos} {elts : List Expr} {kk : Nat} (hg : Gl X "enumerate") (hm : X.mg "enumerate" = none) (ha : PA X [e] ta) (hs : starEach [e] X.env = [(false, eval e X.env)] := by rfl) :
    PI X (.Tuple elts kk tpos) (.Call (.Name "enumerate" p) [e] [] pos) (iEnumT X.K ta) := by
  refine ⟨fun pins s σ H R I h => ?_⟩
  refine PyProof.Rows.Call_ (ld_blt I hg hm PyProof.Rows.boot_enumerate (PyProof.Rows.callWith_type1 (thn (ha.run pos pins s σ H _ I h) fun us s1 ⟨vs, H1, I1, r1, q1⟩ => ?_) hs rfl))
  obtain ⟨a, xs, ex, hq, q⟩ := q1
  subst ex
  cases r1 with
  | cons r rr =>
    cases rr
    cases r
    obtain ⟨its, rv, p', hz⟩ := I1.tuple hq
    have hat : a < s1.heap.objs.size := by
      obtain ⟨o, ho, _⟩ := p'
      exact Heap.lt_size ho
    refine call_enumT (show s1.heap.IsTuple a its.toArray from p') fun h' he hit hsz hk => wpAny_pyIter_enum he ?_
    have I2 : Inv X pins σ H1 { s1 with heap := h' } := I1.kept (t' := s1.toks) hk
    refine ⟨s1.heap.objs.size + 1, [s1.heap.objs.size + 1, s1.heap.objs.size], _, _, H1, rfl, I2, turn_enumT a (s1.heap.objs.size + 1) s1.heap.objs.size (Nat.ne_of_lt (Nat.lt_succ_of_lt hat)) (Nat.ne_of_lt hat), ⟨⟨.none, he⟩, hit, Nat.succ_ne_self _⟩, fun b hb => ?_, q⟩
    have e' : b = s1.heap.objs.size + 1 ∨ b = s1.heap.objs.size := by simpa using hb
    have hle : s1.heap.objs.size ≤ b := by
      rcases e' with z | z
      · rw [z]; exact Nat.le_add_right _ _
      · rw [z]; exact Nat.le_refl _
    exact I1.fpOk hle (I1.hok.fresh hle)
theorem walks_enumT {K : PySem.W.Frag} {F : Hp} {a : Addr} {xs : List V} {ds : List D} (h : DpAll K F xs ds) : Walks K F (IteT K a) (enumD 0 ds) (fun H => SqT K H a xs) where
  goes := fun i H hi g => ⟨xs, xs[i]'(by rw [dps_len h, ← enumD_len 0 ds]; exact hi), g, List.getElem?_eq_getElem _⟩
  stops := fun H g => ⟨xs, g, by rw [dps_len h, ← enumD_len 0 ds]; exact Nat.le_refl _⟩
  yields := fun i d H x H' e g y => by
    obtain ⟨T, z, rfl, hn, rfl, y⟩ := y
    obtain ⟨d', e1, rfl⟩ := enumD_get ds 0 i d e
    obtain ⟨v, e2, h2⟩ := dps_get h e1
    have := (y xs g).symm.trans e2
    cases this
    exact .inr ⟨T, [.int (i : Nat), z], [.int (i : Nat), d'], by rw [Nat.zero_add], rfl, hn, rfl, .cons (.int _) (.cons h2 .nil)⟩
def mEnumT (ms : M (List Ret)) : MI := fun E => (ms E).bind fun rs E1 => match takes E1 rs with
  | some ([.tuple ds], E2) => .ok (enumD 0 ds, none) E2
  | _ => .no
section
variable {X : Cx} {cl : Cl} {W : WX} {e : Expr} {p pos tpos : Pos} {elts : List Expr} {kk : Nat} {ms : M (List Ret)}
theorem den_enumT (hg : Gl X "enumerate") (hm : X.mg "enumerate" = none) (ha : PA X [e] (tMA X.K cl W ms)) (hs : starEach [e] X.env = [(false, eval e X.env)] := by rfl) :
    PI X (.Tuple elts kk tpos) (.Call (.Name "enumerate" p) [e] [] pos) (tMI X.K cl W (mEnumT ms)) := PI.imp (pi_enumT hg hm ha hs) fun σ H R h => by
  obtain ⟨C, E, T, R0, h⟩ := h
  refine ⟨C, E, T, R0, (Run.bind h).imp fun rs E1 h1 vs H1 R1 b1 => ?_⟩
  split at h1
  · rename_i ds E2 e1
    obtain ⟨F, ρ, RF⟩ := R1
    obtain ⟨F2, f2, R2, d2⟩ := RF.takes b1 e1
    obtain ⟨v, rfl, hv⟩ := dps1 d2
    have ⟨a, us, ev, g1, g2⟩ : ∃ a us, v = .ref a ∧ SqT X.K F2 a us ∧ DpAll X.K F2 us ds := by
      cases hv with
      | tup g1 g2 => exact ⟨_, _, rfl, SqT.of g1, g2⟩
    subst ev
    exact ⟨a, us, rfl, MP.Same.seqT R2.fh g1, h1 _ H1 F2 ρ _ R2 (walks_enumT g2) (fun F' H'' e1 e2 _ => MP.Same.seqT (L2.Same.trans e1 e2) g1) (fun _ z => nomatch z)⟩
  · exact h1.elim
end
@[simp] theorem e_enumT (ms : M (List Ret)) (E : SEnv) : mEnumT ms E = (ms E).bind fun rs E1 => match takes E1 rs with
  | some ([.tuple ds], E2) => .ok (enumD 0 ds, none) E2
  | _ => .no := rfl
end MP

open PySem PySem.Spec L2
namespace MP
/-! ### sum of a tuple of whole numbers -/
section
open PyProof.Rows
variable {prog : Program} {w : World} {A : Around} {E : Value → Shared → Prop} {s : Shared} {l : Addr} {its : List Value} {ns : List Int} {Q : Value → Shared → Prop}
theorem sum_rawT (hh : A.handled = none) (hl : s.heap.IsTuple l its.toArray) (hi : IntsAre its ns)
    (h : ∀ h' tk t', (∀ b o, s.heap.get? b = some o → h'.get? b = some o) → Q (.int ns.sum t') { s with heap := h', toks := tk }) : wpAny (model prog w) A (call (.builtin "sum") [.ref l]) Q E s := by
  obtain ⟨xs, e⟩ := hi.allInts.items
  have hn : numsOf (intItems xs).toList = ns := by rw [← e]; exact hi.numsOf
  rw [nums_intItems] at hn
  rw [e] at hl
  refine call_sum_walkG (iter_tupI hl fun s₂ e st hfp hlI => ?_)
  subst e
  refine ⟨_, _, _, _, _, _, numAt xs, rfl, Walks.tuple (A := A.in1) hh _ l hlI (intItems xs), st, hfp, (fun _ _ => intItems_at), fun h' tk t' hk => ?_⟩
  have := h h' tk t' (old_keptT hk)
  rw [← hn] at this
  have e2 := preSum_eq xs xs.size
  rw [List.take_of_length_le (by simp)] at e2
  rw [← e2] at this
  simpa [intItems] using this
end
def rSumT (K : PySem.W.Frag) : List V → Hp → VK → Prop := fun vs H Q => ∃ (a : Addr) (ns : List Int), vs = [V.ref a] ∧ SqT K H a (ns.map V.int) ∧ Q (.int ns.sum) H
theorem cr_sumTu {X : Cx} (hc : X.calm = true) : CallR X (.builtin "sum") (rSumT X.K) := by
  intro pins s σ H vs us Q I r h
  obtain ⟨a, ns, rfl, hs, q⟩ := h
  obtain ⟨its, rv, hl, _⟩ := I.tuple hs
  rw [Vals.ref1 r]
  exact sum_rawT (I.ok.hd hc) hl rv.ints fun h' tk t' hk => ⟨.int _, H, I.kept hk, ⟨_, rfl⟩, q⟩
def sumQF : List D → Option Rv := onInts fun is => some (.val (.int is.sum))
theorem sumQ_ok {K : PySem.W.Frag} : OpN K (fun xs H Q => rSum K xs H Q ∨ rSumT K xs H Q) sumQF := onInts_ok
  (fun F H a is rv Q h e g => by cases e; exact ⟨a, is, rfl, h, g.int⟩)
  (fun F H a is rv Q h e g => by cases e; exact ⟨a, is, rfl, h, g.int⟩)
@[simp] theorem f_sumQT (is : List Int) : sumQF [.tuple (is.map PyData.int)] = some (.val (.int is.sum)) := by simp [sumQF, onInts]
theorem f_sumQTN (as : List Nat) : sumQF [.tuple (as.map nt)] = some (.val (.int ((as.sum : Nat) : Int))) := by
  rw [map_nt, f_sumQT]
  have : ∀ l : List Nat, (l.map fun (n : Nat) => (n : Int)).sum = ((l.sum : Nat) : Int) := by
    intro l
    induction l with
    | nil => rfl
    | cons a l ih => simp [ih]
  rw [this]
end MP

open PySem PySem.Spec L2
namespace MP
/-! ### a refusal that is caught and forgotten -/
def mTryO (S : EC → Bool) (m h : M Fl) : M Fl := fun E => match m E with
  | .ex x E1 => if S x.c = true then h E1 else .no
  | r => r
section
variable {X : Cx} {cl : Cl} {W : WX} {pos pos2 : Pos} {m h : M Fl}
theorem den_tryO (S : EC → Bool) {x : Str} {np : Pos} {body suite : List Stmt} {b1 : Stmt} {c : Value} (hs : X.stack = X.env :: X.outer) (hf : X.env.frame = some X.env.locals) (hc : Names X x c) (tk : Takes X W)
    (hS : ∀ e, S e = true → PySem.W.exmOne X.K (.ref (cl e)) c = some true)
    (hb : ∀ (W : WX) (pn : List (Addr × Obj)) (xe : Value → Shared → Prop), Takes (X.tr pn xe) W → PassesOwn (model X.prog X.w) X.A X.env xe → PSs (X.tr pn xe) body (tMS X.K cl W m))
    (hsu : ∀ (a : Addr) (pn : List (Addr × Obj)), PSs (X.suite a pn) (b1 :: suite) (tMS X.K cl W h)) :
    PS X (.Try body [.ExceptHandler (some (.Name x np)) none (b1 :: suite) pos2] [] [] pos) (tMS X.K cl W (mTryO S m h)) :=
  PS.imp (ps_try_only (tb := fun W => tMS X.K cl W m) (ts := fun _ _ _ => tMS X.K cl W h) (Wout := W) hs hf hc tk hb fun a oe cls d pn _ _ => hsu a _) fun D σ H h => by
    obtain ⟨C, E, T, R, h⟩ := h
    refine ⟨C, E, T, R, ?_⟩
    unfold mTryO at h
    cases q : m E with
    | no => rw [q] at h; exact h.elim
    | ok fl E1 => rw [q] at h; exact h
    | ex x E1 =>
      rw [q] at h
      dsimp only at h
      split at h
      case isFalse => exact h.elim
      rename_i hh
      have h1 := hh
      intro d σ1 H1 R1 hd1
      exact ⟨true, hS _ h1, fun _ a na => ⟨C, E1, T, R1, h⟩, fun z => by cases z⟩
end
@[simp] theorem e_tryO (S : EC → Bool) (m h : M Fl) (E : SEnv) : mTryO S m h E = match m E with
  | .ex x E1 => if S x.c = true then h E1 else .no
  | r => r := rfl
end MP

open PySem PySem.Spec L2
namespace MP
/-! ### the order of data that are alike -/
def rLtD (K : PySem.W.Frag) : R2 := fun x y H Q => ∃ d e, Dp K H x d ∧ Dp K H y e ∧ PySem.W.alike d e = true ∧ isNon d = false ∧ min d.depth e.depth ≤ 60 ∧ Q (.bl (PySem.W.dataLt d e)) H
theorem op_ltD {X : Cx} (hu : X.A.units + 64 < cLine) : OpR X (compareOp .Lt) (rLtD X.K) := by
  intro pins s σ H x y v u Q I rx ry h
  obtain ⟨d, e, hd, he, ha, hn, hm, q⟩ := h
  obtain ⟨as, r1⟩ := L2.Dp.reads I d x v hd.low rx
  obtain ⟨bs, r2⟩ := L2.Dp.reads I e y u he.low ry
  have R := PySem.W.rcLt_alike d e X.A s v u as bs r1 r2 ha (fun z => by subst z; cases hn) (by omega)
  have z : wpAny (model X.prog X.w) X.A (compareOp .Lt v u) (EP X pins σ Q) X.xe s := R X.prog X.w X.xe (EP X pins σ Q) ⟨.bl _, H, I, rfl, q⟩
  exact z
noncomputable def ltQF : D → D → Option Rv := fun a b => if Ok (PySem.W.alike a b = true ∧ isNon a = false ∧ min a.depth b.depth ≤ 60) then some (.val (.bool (PySem.W.dataLt a b))) else none
theorem ltQ_ok {K : PySem.W.Frag} : Op2 K (rLtD K) ltQF := fun F H x y a b rv Q hs ha hb e g => by
  unfold ltQF at e
  split at e
  · rename_i hl
    cases e
    exact ⟨_, _, dp_of ha hs, dp_of hb hs, hl.1, hl.2.1, hl.2.2, g.bool⟩
  · cases e
/-! ### rows, the first difference decides -/
section
open PyProof.Rows PySem.W
variable {α : Type} [DecidableEq α]
def lexL (lt : α → α → Bool) : List α → List α → Bool
  | [], [] => false
  | [], _ :: _ => true
  | _ :: _, [] => false
  | a :: l, b :: m => if a = b then lexL lt l m else lt a b
structure Ordr (f : α → D) (k : Nat) (lt : α → α → Bool) : Prop where
  lay : Lay f k
  alk : ∀ x y, alike (f x) (f y) = true
  non : ∀ x, isNon (f x) = false
  lts : ∀ x y, x ≠ y → dataLt (f x) (f y) = lt x y
theorem Ordr.alks {f : α → D} {k : Nat} {lt : α → α → Bool} (O : Ordr f k lt) : ∀ as bs : List α, alikeAll (as.map f) (bs.map f) = true
  | [], _ => rfl
  | _ :: _, [] => rfl
  | a :: as, b :: bs => by
    show (alike (f a) (f b) && alikeAll (as.map f) (bs.map f)) = true
    rw [O.alk, O.alks as bs]; rfl
theorem Ordr.lex {f : α → D} {k : Nat} {lt : α → α → Bool} (O : Ordr f k lt) : ∀ as bs : List α, lexLt itemOrd (keyToksAll (as.map f)) (keyToksAll (bs.map f)) = lexL lt as bs
  | [], [] => show PyProof.Rows.lexLt itemOrd (keyToksAll []) (keyToksAll []) = false by decide
  | [], b :: bs => by
    rw [List.map_cons, toks_all_cons]
    rfl
  | a :: as, [] => by
    rw [List.map_cons, toks_all_cons]
    rfl
  | a :: as, b :: bs => by
    rw [List.map_cons, List.map_cons, lexL]
    by_cases e : a = b
    · rw [if_pos e, dataLt_all_yes (O.alk a b) (by rw [O.lay.eq, decide_eq_true e])]
      exact O.lex as bs
    · rw [if_neg e, dataLt_all_no (O.alk a b) (by rw [O.lay.eq, decide_eq_false e])]
      exact O.lts a b e
theorem Ordr.int : Ordr PyData.int 0 (fun x y => decide (x < y)) := ⟨Lay.int, fun _ _ => rfl, fun _ => rfl, fun x y _ => dataLt_int x y⟩
theorem Ordr.list {f : α → D} {k : Nat} {lt : α → α → Bool} (O : Ordr f k lt) : Ordr (fun as : List α => PyData.list (as.map f)) (k + 1) (lexL lt) :=
  ⟨O.lay.list, fun as bs => O.alks as bs, fun _ => rfl, fun as bs _ => by rw [dataLt_list]; exact O.lex as bs⟩
theorem Ordr.tuple {f : α → D} {k : Nat} {lt : α → α → Bool} (O : Ordr f k lt) : Ordr (fun as : List α => PyData.tuple (as.map f)) (k + 1) (lexL lt) :=
  ⟨O.lay.tuple, fun as bs => O.alks as bs, fun _ => rfl, fun as bs _ => by rw [dataLt_tuple]; exact O.lex as bs⟩
theorem Ordr.ltQ {f : α → D} {k : Nat} {lt : α → α → Bool} (O : Ordr f k lt) (hk : k ≤ 60) {x y : α} (h : x ≠ y ∨ dataLt (f x) (f y) = lt x y) : ltQF (f x) (f y) = some (.val (.bool (lt x y))) := by
  unfold ltQF
  rw [ok_pos ⟨O.alk x y, O.non x, by have := O.lay.dep x; omega⟩]
  rcases h with h | h
  · rw [O.lts x y h]
  · rw [h]
theorem lt_list {f : α → D} {k : Nat} {lt : α → α → Bool} (O : Ordr f k lt) (hk : k < 60) (as bs : List α) : ltQF (.list (as.map f)) (.list (bs.map f)) = some (.val (.bool (lexL lt as bs))) :=
  O.list.ltQ (by omega) (x := as) (y := bs) (.inr (by rw [dataLt_list]; exact O.lex as bs))
theorem lt_tuple {f : α → D} {k : Nat} {lt : α → α → Bool} (O : Ordr f k lt) (hk : k < 60) (as bs : List α) : ltQF (.tuple (as.map f)) (.tuple (bs.map f)) = some (.val (.bool (lexL lt as bs))) :=
  O.tuple.ltQ (by omega) (x := as) (y := bs) (.inr (by rw [dataLt_tuple]; exact O.lex as bs))
end
end MP

open PySem PySem.Spec L2
namespace MP
/-! ### tuple(reversed(range(n))) -/
section
open PyProof.Rows
theorem range_hint (it : Addr) (x left step : Int) :
    Meets (Builtin.«range_iterator.__length_hint__» ⟨[.ref it], []⟩) (fun _ R s => s.heap.get? it = some { cls := .type "range_iterator", dict := none, data := .fields #[rawInt x, rawInt left, rawInt step], slots := #[] } ∧ R (.ok (.ret (Value.int left s.toks))) { s with toks := s.toks + 1 }) :=
  .of_wp fun prog w A R s h => by obtain ⟨hp, g, d, tk, os⟩ := s; obtain ⟨hl, h⟩ := h; wp_walk; exact ⟨_, rfl, h⟩
variable {prog : Program} {w : World} {A : Around} {E : Value → Shared → Prop} {s : Shared}
theorem collect_rit {it : Addr} {a c : Int} {n : Nat} {Q : List Value → Shared → Prop} (hh : A.handled = none) (hit : IsRangeIter s.heap it a (n : Int) c) (hn : n ≤ sizeLine)
    (hQ : ∀ (h' : Heap) (tk : Nat) (acc : Array Value), (∀ b o, b ≠ it → s.heap.get? b = some o → h'.get? b = some o) → ItemsOf (fun i v => ∃ t, v = .int (a + i * c) t) acc n → Q acc.toList { s with heap := h', toks := tk }) :
    wpAny (model prog w) A (collect (.ref it)) Q E s := by
  have W := (Walks.range (prog := prog) (w := w) (A := A.in1) hh it a c n).toS
  refine wpAny_collect_iter_range W (fun i s st => ⟨_, st, rfl⟩) (show IsRangeIter s.heap it (a + ((0 : Nat) : Int) * c) ((n : Int) - ((0 : Nat) : Int)) c by
    have e1 : a + ((0 : Nat) : Int) * c = a := by simp
    have e2 : (n : Int) - ((0 : Nat) : Int) = n := by omega
    rw [e1, e2]; exact hit) (fun b hb => by rw [List.mem_singleton.mp hb]; exact Heap.lt_size hit) (List.mem_singleton.mpr rfl) (fun s1 Q' E' st k => ?_) (fun s' acc hm hi => ?_) hn
  · have st' : IsRangeIter s1.heap it (a + ((0 : Nat) : Int) * c) ((n : Int) - ((0 : Nat) : Int)) c := st
    have e2 : (n : Int) - ((0 : Nat) : Int) = n := by omega
    rw [e2] at st'
    refine call_meets PySem.F.slot_range_iterator_length_hint ⟨_, st', rfl⟩ PySem.F.entry_range_iterator_length_hint (PySem.F.args_range_iterator_length_hint_1 _) (range_hint it _ (n : Int) c) ⟨st', ?_⟩
    exact k (n : Int) s1.toks (s1.toks + 1) (Nat.le_succ _) (by unfold Builtin.List.listTooLong; rw [Int.toNat_natCast]; simpa using hn)
  · rw [Moved.eq_with hm]
    exact hQ s'.heap s'.toks acc (fun b o hb e => hm.heap b o (fun q => hb (List.mem_singleton.mp q)) e) hi
theorem code_tuple_new_rit {it : Addr} {a c : Int} {n : Nat} {Q₁ : Value → Shared → Prop} (hh : A.handled = none) (hit : IsRangeIter s.heap it a (n : Int) c) (hn : n ≤ sizeLine)
    (h : ∀ (h' : Heap) (tk : Nat) (acc : Array Value), (∀ b o, b ≠ it → s.heap.get? b = some o → h'.get? b = some o) → ItemsOf (fun i v => ∃ t, v = .int (a + i * c) t) acc n →
      Q₁ (.ref h'.objs.size) { s with heap := h'.push { cls := .type "tuple", data := .seq acc }, toks := tk }) :
    codeAny (model prog w) A (.call (.builtin "tuple.__new__") ⟨[.type "tuple", .ref it], []⟩) (wants Q₁ E) s := by
  refine codeAny_of_tree ?_
  show wpAny _ A.in1 (do checkBuiltinCall "tuple.__new__" ⟨[.type "tuple", .ref it], []⟩; again (.builtin "tuple.__new__" ⟨[.type "tuple", .ref it], []⟩)) _ _ s
  refine wpAny_bind (wpAny_of_eq (F.newCall_tuple_1 _) (wpAny_pure ⟨plainId_quiet F.plain_tuple_new _, codeAny_builtin F.entry_tuple_new ?_⟩))
  rw [Around.under_plainId F.plain_tuple_new _]
  have hsub := sub_tuple_self
  have hinit := init_tuple_lookup
  have hmh := madeHere_tuple
  have hTI : s.TypeIs (.ref it) "range_iterator" := ⟨_, hit, rfl⟩
  have hh1 : A.in1.handled = none := hh
  wp_walk using wpAny_typeOf hTI, collect_rit (A := A.in1) hh1 hit hn
  intro h' tk acc hk hacc
  show wpAny _ _ (Builtin.Tuple.tupleExact acc.toList.toArray >>= fun v => ret v) _ _ _
  unfold Builtin.Tuple.tupleExact
  refine wpAny_bind (wpAny_newObj_type ?_ (by show acc.toList.toArray.size ≤ sizeLine; simp only [Array.toArray_toList]; rw [hacc.1]; exact hn))
  refine wpAny_pure ?_
  have e : acc.toList.toArray = acc := by simp
  rw [e]
  exact h h' tk acc hk hacc
theorem call_tuple_rit {it : Addr} {a c : Int} {n : Nat} {Q : Value → Shared → Prop} (hh : A.handled = none) (hit : IsRangeIter s.heap it a (n : Int) c) (hn : n ≤ sizeLine)
    (hQ : ∀ (h' : Heap) (tk : Nat) (acc : Array Value), (∀ b o, b ≠ it → s.heap.get? b = some o → h'.get? b = some o) → ItemsOf (fun i v => ∃ t, v = .int (a + i * c) t) acc n →
      Q (.ref h'.objs.size) { s with heap := h'.push { cls := .type "tuple", data := .seq acc }, toks := tk }) :
    wpAny (model prog w) A (call (.type "tuple") [.ref it]) Q E s := by
  refine callType_codes (Q₁ := fun obj s₁ => s₁.TypeIs obj "tuple" ∧ Q obj s₁) F.called_tuple (F.typeCall_tuple_1 _) F.entry_object_init
    (code_tuple_new_rit (A := A.in1) hh hit hn fun h' tk acc hk hacc => ⟨⟨_, Heap.get?_push_size _ rfl, rfl⟩, hQ h' tk acc hk hacc⟩) fun obj s₁ h₁ => ?_
  exact ⟨h₁.1, F.args_object_init_2 obj _, object_init_meets F.called_tuple.init.lookup F.called_tuple.made (by decide) prog w A.in1 _ s₁ ⟨h₁.1, rfl, h₁.2⟩⟩
end
def rgRev (a b : Int) : List V := (List.range (b - a).toNat).map fun i => V.int (a + (((b - a).toNat : Nat) : Int) - 1 + (i : Nat) * (-1))
def tTupRevRg (te : St → Hp → (Int → Int → Hp → Prop) → Prop) : TE := fun σ H Q => te σ H fun a b H1 => RgOk a b ∧ ∀ q, H1 q = none → Q (.ref q) (upd H1 q (.tup (rgRev a b)))
theorem vals_rgRev {a b : Int} {acc : Array Value} (h : ItemsOf (fun i v => ∃ t, v = .int (a + (((b - a).toNat : Nat) : Int) - 1 + i * (-1)) t) acc (b - a).toNat) : Vals (rgRev a b) acc.toList := by
  have e : acc.toList.length = (b - a).toNat := by rw [Array.length_toList]; exact h.1
  unfold rgRev
  rw [← e]
  refine vals_of_get acc.toList _ fun j u hj => ?_
  obtain ⟨t, rfl⟩ := h.2 j u (by rw [← hj, Array.getElem?_toList])
  exact ⟨t, by rw [e]⟩
section
variable {X : Cx} {te : St → Hp → (Int → Int → Hp → Prop) → Prop}
end
end MP
namespace L2
open PySem PySem.Spec PyProof.Rows
open MP (rgRev tTupRevRg vals_rgRev call_tuple_rit)
section
variable {X : Cx} {te : St → Hp → (Int → Int → Hp → Prop) → Prop}
theorem pe_tupRevRg {e : Expr} {p p2 pos pos2 : Pos} (hc : X.calm = true) (hg : Gl X "tuple") (hm : X.mg "tuple" = none) (hg2 : Gl X "reversed") (hm2 : X.mg "reversed" = none) (he : PRg X e te)
    (hs : starEach [e] X.env = (false, eval e X.env) :: starEach [] X.env := by rfl)
    (hs2 : starEach [.Call (.Name "reversed" p2) [e] [] pos2] X.env = (false, eval (.Call (.Name "reversed" p2) [e] [] pos2) X.env) :: starEach [] X.env := by rfl) :
    PE X (.Call (.Name "tuple" p) [.Call (.Name "reversed" p2) [e] [] pos2] [] pos) (tTupRevRg te) := by
  refine ⟨fun pins s σ H Q I h => ?_⟩
  refine PyProof.Rows.Call_ (ld_blt I hg hm PyProof.Rows.boot_tuple (PyProof.Rows.callWith_type1 (args_cons (PyProof.Rows.Call_ (ld_blt I hg2 hm2 PyProof.Rows.boot_reversed (PyProof.Rows.callWith_type1 (args_cons (thn (he pins s σ H _ I h) fun u s1 hx => args_nil ?_) hs) hs rfl))) hs2) hs2 rfl))
  obtain ⟨r, a, b, t, w1, v, H1, eu, hr, I1, ok, q⟩ := hx
  obtain ⟨b1, b2, b3, b4, b5⟩ := ok
  subst eu
  have hn : Builtin.Range.rangeSize a b 1 = (((b - a).toNat : Nat) : Int) := PyProof.Rows.rangeSize_nat a b
  refine call_reversed_range hr (smallRev_one b1 b2 b3 b4) (args_nil ?_)
  have I2 : Inv X pins σ H1 { s1 with heap := s1.heap.push (rngRevObj a b 1) } := I1.kept (t' := s1.toks) fun b o e => Heap.get?_push_of_some _ e
  obtain ⟨f0, f1, f2, f3, f4, f5⟩ := I1.fpOk (H' := H1) (b := s1.heap.objs.size) (Nat.le_refl _) (I1.hok.fresh (Nat.le_refl _))
  have e1 : a + (Builtin.Range.rangeSize a b 1 - 1) * 1 = a + (((b - a).toNat : Nat) : Int) - 1 := by rw [hn]; omega
  have hit : IsRangeIter (s1.heap.push (rngRevObj a b 1)) s1.heap.objs.size (a + (((b - a).toNat : Nat) : Int) - 1) (((b - a).toNat : Nat) : Int) (-1) := by
    rw [← e1, ← hn]
    exact Heap.get?_push_size _ rfl
  refine call_tuple_rit (s := { s1 with heap := s1.heap.push (rngRevObj a b 1) }) (I1.ok.hd hc) hit (by rw [sizeLine_eq]; omega) fun h' tk acc hk hi => ?_
  have I3 : Inv X pins σ H1 { s1 with heap := h', toks := tk } := I2.turned (t' := tk) (fun b o hb e => hk b o hb e) f0 f1 f3 f4 f5
  refine ⟨.ref h'.objs.size, upd H1 h'.objs.size (.tup (rgRev a b)), I3.laid (t' := tk) (fun c o e => Heap.get?_push_of_some _ e) (Nat.le_refl _) (show ObjOk X.prog X.w _ _ _ (.tup (rgRev a b)) from ⟨by unfold rgRev; rw [List.length_map, List.length_range, sizeLine_eq]; omega, acc.toList, vals_rgRev hi, ?_⟩), rfl, q _ (I3.hok.fresh (Nat.le_refl _))⟩
  rw [Array.toArray_toList]
  exact IsTup.new _ _
end
end L2
namespace MP
noncomputable def trr1F : D → Option Rv
  | .int j => if Ok (smallR 0 j = true) then some (.val (.tuple ((List.range (j - 0).toNat).map fun i => PyData.int (0 + (((j - 0).toNat : Nat) : Int) - 1 + (i : Nat) * (-1))))) else none
  | _ => none
section
variable {X : Cx} {cl : Cl} {W : WX} {ma : M Ret} {a : Expr} {p pos p2 pos2 : Pos}
theorem den_trr1 (hc : X.calm = true) (hg : Gl X "tuple") (hm : X.mg "tuple" = none) (hg1 : Gl X "reversed") (hm1 : X.mg "reversed" = none) (hg2 : Gl X "range") (hm2 : X.mg "range" = none) (ha : PE X a (tM X.K cl W ma)) {q2 q3 : Pos} (na : starEach [a] X.env = (false, eval a X.env) :: starEach [] X.env := by rfl)
    (na2 : starEach [.Call (.Name "range" q2) [a] [] q3] X.env = (false, eval (.Call (.Name "range" q2) [a] [] q3) X.env) :: starEach [] X.env := by rfl)
    (na3 : starEach [.Call (.Name "reversed" p2) [.Call (.Name "range" q2) [a] [] q3] [] pos2] X.env = (false, eval (.Call (.Name "reversed" p2) [.Call (.Name "range" q2) [a] [] q3] [] pos2) X.env) :: starEach [] X.env := by rfl) :
    PE X (.Call (.Name "tuple" p) [.Call (.Name "reversed" p2) [.Call (.Name "range" q2) [a] [] q3] [] pos2] [] pos) (tM X.K cl W (m1 trr1F ma)) :=
  PE.imp (pe_tupRevRg hc hg hm hg1 hm1 (prg_1 hg2 hm2 ha na) na2 na3) fun σ H Q h => tUn_of (r := fun x H Q => ∃ n, x = .int n ∧ RgOk 0 n ∧ ∀ q, H q = none → Q (.ref q) (upd H q (.tup (rgRev 0 n)))) (f := trr1F) (fun F H y a rv Q hs hd' e' g => by
    unfold trr1F at e'
    split at e'
    · split at e'
      · rename_i hl; cases e'; exact ⟨_, dpt_int hd', smallR_ok hl, fun q hq => g.2 _ q _ rfl hq (dps_fun _ _)⟩
      · cases e'
    · cases e') σ H Q h
end
theorem f_trr1 {n : Nat} (h : n ≤ 1000000) : trr1F (.int (n : Int)) = some (.val (.tuple ((List.range n).reverse.map nt))) := by
  unfold trr1F
  simp only
  rw [ok_pos (by unfold smallR; simp; omega)]
  congr 2
  congr 1
  rw [show ((n : Int) - 0).toNat = n by omega]
  refine List.ext_getElem (by simp) fun i h1 h2 => ?_
  have hi : i < n := by simpa using h1
  simp [nt]
  omega
/-! ### rows of whole numbers, not less -/
open PyProof.Rows in
def rGeT (K : PySem.W.Frag) : R2 := fun x y H Q => ∃ (a b : Addr) (ns ms : List Int), x = .ref a ∧ y = .ref b ∧ SqT K H a (ns.map V.int) ∧ SqT K H b (ms.map V.int) ∧ Q (.bl (Ob.lexAt (fun j => decide (ns.getD j 0 = ms.getD j 0)) (fun j => decide (ms.getD j 0 ≤ ns.getD j 0)) (decide (ms.length ≤ ns.length)) 0 (min ns.length ms.length))) H
theorem op_geT {X : Cx} (hu : X.A.units < cLine) : OpR X (compareOp .GtE) (rGeT X.K) := by
  intro pins s σ H x y v u Q I rx ry h
  obtain ⟨a, b, ns, ms, rfl, rfl, ha, hb, q⟩ := h
  cases rx
  cases ry
  obtain ⟨its, r1, p1, _⟩ := I.tuple ha
  obtain ⟨its2, r2, p2, _⟩ := I.tuple hb
  have i1 : PyProof.Rows.IntsAre its ns := Vals.ints r1
  have i2 : PyProof.Rows.IntsAre its2 ms := Vals.ints r2
  have e1 : its.toArray.size = ns.length := by rw [List.size_toArray]; exact i1.length
  have e2 : its2.toArray.size = ms.length := by rw [List.size_toArray]; exact i2.length
  have at1 : ∀ j (h1 : j < its.toArray.size), ∃ t, its.toArray[j] = .int (ns.getD j 0) t := fun j h1 => PyProof.Rows.IntsAre.int_at i1 _ _ (by simp at h1; simp [h1])
  have at2 : ∀ j (h1 : j < its2.toArray.size), ∃ t, its2.toArray[j] = .int (ms.getD j 0) t := fun j h1 => PyProof.Rows.IntsAre.int_at i2 _ _ (by simp at h1; simp [h1])
  have R := Ob.RcOp.tuples_ge (A := X.A) (s := s) (e := fun j => decide (ns.getD j 0 = ms.getD j 0)) (r := fun j => decide (ms.getD j 0 ≤ ns.getD j 0)) p1 p2 hu (fun j h1 h2 => by
    obtain ⟨t, et⟩ := at1 j h1
    obtain ⟨t', et'⟩ := at2 j h2
    rw [et, et']
    have z : (ns.getD j 0 == ms.getD j 0) = decide (ns.getD j 0 = ms.getD j 0) := by
      by_cases q : ns.getD j 0 = ms.getD j 0
      · rw [decide_eq_true q]; exact beq_iff_eq.mpr q
      · rw [decide_eq_false q]; exact beq_eq_false_iff_ne.mpr q
    rw [← z]
    exact SeqAt.EqAt.int_int _ _ _ _) (fun j h1 h2 _ => by
    obtain ⟨t, et⟩ := at1 j h1
    obtain ⟨t', et'⟩ := at2 j h2
    rw [et, et']
    exact Ob.RcOp.ge_int _ _ _ _)
  rw [e1, e2] at R
  have z : wpAny (model X.prog X.w) X.A (compareOp .GtE (.ref a) (.ref b)) (EP X pins σ Q) X.xe s := R X.prog X.w X.xe (EP X pins σ Q) ⟨.bl _, H, I, rfl, q⟩
  exact z
def lexGeI : List Int → List Int → Bool
  | [], [] => true
  | [], _ :: _ => false
  | _ :: _, [] => true
  | x :: xs, y :: ys => if x = y then lexGeI xs ys else decide (y ≤ x)
theorem lexAt_ge (N M : List Int) : ∀ (k i : Nat), min (N.length - i) (M.length - i) = k → i ≤ N.length → i ≤ M.length → Ob.lexAt (fun j => decide (N.getD j 0 = M.getD j 0)) (fun j => decide (M.getD j 0 ≤ N.getD j 0)) (decide (M.length ≤ N.length)) i k = lexGeI (N.drop i) (M.drop i)
  | 0, i, h, h1, h2 => by
    rw [Ob.lexAt_zero]
    by_cases q : i < N.length
    · have hm : M.length = i := by omega
      rw [List.drop_eq_getElem_cons q, List.drop_eq_nil_of_le (show M.length ≤ i by omega)]
      exact decide_eq_true (by omega)
    · rw [List.drop_eq_nil_of_le (show N.length ≤ i by omega)]
      by_cases q2 : i < M.length
      · rw [List.drop_eq_getElem_cons q2]
        exact decide_eq_false (by omega)
      · rw [List.drop_eq_nil_of_le (show M.length ≤ i by omega)]
        exact decide_eq_true (by omega)
  | k + 1, i, h, h1, h2 => by
    have q : i < N.length := by omega
    have q2 : i < M.length := by omega
    rw [Ob.lexAt_succ, List.drop_eq_getElem_cons q, List.drop_eq_getElem_cons q2, lexGeI, List.getD_eq_getElem?_getD, List.getD_eq_getElem?_getD, List.getElem?_eq_getElem q, List.getElem?_eq_getElem q2]
    show (if decide (N[i] = M[i]) = true then _ else decide (M[i] ≤ N[i])) = _
    by_cases e : N[i] = M[i]
    · rw [if_pos (decide_eq_true e), if_pos e]
      exact lexAt_ge N M k (i + 1) (by omega) (by omega) (by omega)
    · rw [if_neg (by simpa using e), if_neg e]
noncomputable def geQF : D → D → Option Rv
  | .tuple as, .tuple bs => match intsOf as, intsOf bs with
    | some ns, some ms => some (.val (.bool (lexGeI ns ms)))
    | _, _ => none
  | _, _ => none
theorem geQ_ok {K : PySem.W.Frag} : Op2 K (rGeT K) geQF := fun F H x y a b rv Q hs ha hb e g => by
  unfold geQF at e
  split at e
  · split at e
    · rename_i ns ms h1 h2
      cases e
      obtain ⟨p, rfl, g1⟩ := sq_intsT hs h1 ha
      obtain ⟨q, rfl, g2⟩ := sq_intsT hs h2 hb
      refine ⟨p, q, ns, ms, rfl, rfl, g1, g2, ?_⟩
      have := lexAt_ge ns ms (min ns.length ms.length) 0 (by simp) (Nat.zero_le _) (Nat.zero_le _)
      rw [List.drop_zero, List.drop_zero] at this
      rw [this]
      exact g.bool
    · cases e
  · cases e
theorem f_geQ (as bs : List Nat) : geQF (.tuple (as.map nt)) (.tuple (bs.map nt)) = some (.val (.bool (!lexL (fun x y => decide (x < y)) as bs))) := by
  unfold geQF
  simp only [intsOf_nt]
  congr 2
  congr 1
  induction as generalizing bs with
  | nil => cases bs <;> rfl
  | cons a as ih =>
    cases bs with
    | nil => rfl
    | cons b bs =>
      rw [List.map_cons, List.map_cons, lexGeI, lexL]
      by_cases e : a = b
      · rw [if_pos (by rw [e]), if_pos e]; exact ih bs
      · rw [if_neg (by omega), if_neg e]
        by_cases h : a < b
        · rw [decide_eq_true h, decide_eq_false (by omega)]; rfl
        · rw [decide_eq_false h, decide_eq_true (by omega)]; rfl
end MP

open PySem PySem.Spec L2
namespace MP
/-! ### tuple(reversed(a list)), sorted(numbers, reverse=True) -/
def tupRevF : D → Option Rv
  | .list ds => some (.val (.tuple ds.reverse))
  | _ => none
def sortedRF : List D → Option Rv := onIntsL fun is => some (.own (.lst ((sortI is).reverse.map PyData.int)))
section
variable {X : Cx} {cl : Cl} {W : WX} {ma : M Ret} {ms : M (List Ret)} {a e : Expr} {es : List Expr} {p pos p2 pos2 : Pos}
theorem den_tupRev (hc : X.calm = true) (hg : Gl X "tuple") (hm : X.mg "tuple" = none) (hg1 : Gl X "reversed") (hm1 : X.mg "reversed" = none) (ha : PE X a (tM X.K cl W ma)) (na : starEach [a] X.env = (false, eval a X.env) :: starEach [] X.env := by rfl)
    (na2 : starEach [.Call (.Name "reversed" p2) [a] [] pos2] X.env = (false, eval (.Call (.Name "reversed" p2) [a] [] pos2) X.env) :: starEach [] X.env := by rfl) :
    PE X (.Call (.Name "tuple" p) [.Call (.Name "reversed" p2) [a] [] pos2] [] pos) (tM X.K cl W (m1 tupRevF ma)) :=
  PE.imp (RT.pe_tupRev hc hg hm hg1 hm1 ha na na2) fun σ H Q h => tUn_of (r := fun x H Q => ∃ a xs, x = .ref a ∧ SqL X.K H a xs ∧ ∀ p, H p = none → Q (.ref p) (upd H p (.tup xs.reverse))) (f := tupRevF) (fun F H y a rv Q hs hd' e' g => by
    unfold tupRevF at e'
    split at e'
    · cases e'
      obtain ⟨b, xs, rfl, h1, h2⟩ := dpt_lst hs hd'
      exact ⟨b, xs, rfl, h1, fun q hq => g.2 _ q _ rfl hq (dps_rev h2)⟩
    · cases e') σ H Q h
theorem sortedR_ok {K : PySem.W.Frag} : OpN K (fun vs H Q => rSortedKw K true [.bl true] vs [.bl true] H Q) sortedRF := fun F H xs as rv Q hs hd e g => by
  unfold sortedRF onIntsL at e
  split at e
  · obtain ⟨is, h1, h2⟩ := Option.bind_eq_some_iff.mp e
    obtain ⟨v, rfl, h⟩ := dpts1 hd
    obtain ⟨a, rfl, h3⟩ := sq_ints hs h1 h
    cases h2
    refine ⟨a, is, rfl, rfl, h3, fun ns' q hp ho hn => ?_⟩
    have hs' : ns'.reverse = sortI is := sortI_eq ((List.reverse_perm _).trans hp) (by
      have : ns'.Pairwise (· ≥ ·) := ho
      rw [List.pairwise_reverse]; exact this)
    have e2 : ns' = (sortI is).reverse := by rw [← hs', List.reverse_reverse]
    subst e2
    exact g q _ hn ⟨_, rfl, dps_of_ints _⟩
  · cases e
theorem den_sortedR {kp kc : Pos} {j : Nat} (hg : Gl X "sorted") (hm : X.mg "sorted" = none) (ha : PA X (e :: es) (tMA X.K cl W ms))
    (he : backTo pos (starEach (e :: es) X.env) = (false, eval e X.env) :: backTo pos (starEach es X.env) := by rfl) (hpl : (backTo pos (starEach (e :: es) X.env)).any (·.1) = false := by rfl)
    (hall : (backToKw pos (keywordEach [⟨some (Str.ofString "reverse"), .Constant (.bool true) j kc, kp⟩] X.env)).all (·.1.isSome) = true := by rfl) (hnone : (backToKw pos (keywordEach [⟨some (Str.ofString "reverse"), .Constant (.bool true) j kc, kp⟩] X.env)).any (·.1.isNone) = false := by rfl)
    (hks : (backToKw pos (keywordEach [⟨some (Str.ofString "reverse"), .Constant (.bool true) j kc, kp⟩] X.env)).filterMap (·.1) = [Str.ofString "reverse"] := by rfl) :
    PE X (.Call (.Name "sorted" p) (e :: es) [⟨some (Str.ofString "reverse"), .Constant (.bool true) j kc, kp⟩] pos) (tM X.K cl W (mN sortedRF ms)) :=
  PE.imp (pe_callBK (cr_sortedRev (b := true)) hg hm PyProof.Rows.boot_sorted ha (pk_cons pe_bl pk_nil) (by decide) (by decide) he hpl hall hnone hks) fun σ H Q h => tCB_of (r := fun vs H Q => rSortedKw X.K true [.bl true] vs [.bl true] H Q) sortedR_ok σ H Q h
end
@[simp] theorem f_tupRev (ds : List D) : tupRevF (.list ds) = some (.val (.tuple ds.reverse)) := rfl
@[simp] theorem f_sortedR (is : List Int) : sortedRF [.list (is.map PyData.int)] = some (.own (.lst ((sortI is).reverse.map PyData.int))) := by simp [sortedRF, onIntsL]
end MP

open PySem PySem.Spec L2
namespace MP
/-! ### texts: methods of one argument -/
def mMeth (f : Str → D → Option Rv) (a b : M Ret) : M Ret := fun E => (a E).bind fun r1 E1 => match dat E1 r1 with
  | some (.str s) => (b E1).bind fun r2 E2 => (match dat E2 r2 with
    | some d => retO (f s d) E2
    | none => .no)
  | _ => .no
def strsOf : List D → Option (List Str)
  | [] => some []
  | .str s :: ds => (strsOf ds).map (s :: ·)
  | _ :: _ => none
theorem strsOf_eq : ∀ {ds : List D} {ss : List Str}, strsOf ds = some ss → ds = ss.map PyData.str
  | [], ss, e => by cases e; rfl
  | d :: ds, ss, e => by
    cases d with
    | str s =>
      obtain ⟨l, e1, rfl⟩ := Option.map_eq_some_iff.mp (show (strsOf ds).map (s :: ·) = some ss from e)
      rw [strsOf_eq e1]; rfl
    | none => cases e
    | bool _ => cases e
    | int _ => cases e
    | list _ => cases e
    | tuple _ => cases e
    | dict _ => cases e
@[simp] theorem strsOf_map : ∀ ss : List Str, strsOf (ss.map PyData.str) = some ss
  | [] => rfl
  | s :: ss => by
    show (strsOf (ss.map PyData.str)).map (s :: ·) = _
    rw [strsOf_map ss]; rfl
noncomputable def splitF (s : Str) : D → Option Rv
  | .str b => if Ok ((b.length == 0) = false ∧ s.length + 2 ≤ big) then some (.own (.lst ((Txt.split s b).map PyData.str))) else none
  | _ => none
noncomputable def joinS (s : Str) (ys : List Str) : Option Rv := if Ok ((ys.map (·.length)).sum + ys.length * s.length ≤ 1000000) then some (.val (.str (Txt.join s ys))) else none
noncomputable def joinF (s : Str) : D → Option Rv
  | .list ds => (strsOf ds).bind (joinS s)
  | .tuple ds => (strsOf ds).bind (joinS s)
  | _ => none
section
variable {X : Cx} {cl : Cl} {W : WX} {a b e : Expr} {pos apos : Pos} {ma mb : M Ret}
theorem tM1_of {K : PySem.W.Frag} {r : V → List V → Hp → VK → Prop} {f : Str → D → Option Rv} (hf : ∀ (F H : Hp) (s : Str) (y : V) (d : D) (rv : Rv) (Q : VK), Same F H → DpT K F H y d → f s d = some rv → Gives K F H Q rv → r (.str s) [y] H Q)
    (σ : St) (H : Hp) (Q : VK) (h : tM K cl W (mMeth f ma mb) σ H Q) : tM1 r (tM K cl W ma) (tM K cl W mb) σ H Q := by
  obtain ⟨C, E, T, R, h⟩ := h
  refine ⟨C, E, T, R, (Run.bind h).imp fun r1 E1 h1 v1 H1 R1 b1 => ?_⟩
  split at h1
  · rename_i s e1
    obtain ⟨F1, ρ1, RF1⟩ := _root_.id R1
    have ev := dpt_str (RF1.dat (k := T.length) (by simp) b1 e1)
    subst ev
    refine ⟨⟨s, rfl⟩, C, E1, _, R1, (Run.bind h1).go fun r2 E2 h2 v2 H2 R2 b2 => ?_⟩
    split at h2
    · rename_i d e2
      obtain ⟨rv, e3, p⟩ := retO_run h2
      obtain ⟨F, ρ, RF⟩ := R2
      have k2 : (T ++ [(V.str s, r1)] ++ [(v2, r2)])[T.length + 1]? = some (v2, r2) := by simp
      exact hf F H2 s v2 d rv Q RF.fh (RF.dat k2 b2 e2) e3 (gives (T' := [(V.str s, r1), (v2, r2)]) (by simpa using RF) p)
    · exact h2.elim
  · exact h1.elim
theorem den_split (ha : PE X a (tM X.K cl W ma)) (hb : PE X b (tM X.K cl W mb)) (hs : starEach [b] X.env = [(false, eval b X.env)] := by rfl) (hbase : attributeBase a "split" X.env (eval a X.env) = eval a X.env := by rfl) (hline : (apos.endLine == pos.line) = true := by rfl) :
    PE X (.Call (.Attribute a "split" apos) [b] [] pos) (tM X.K cl W (mMeth splitF ma mb)) :=
  PE.imp (pe_split ha hb hs hbase hline) (tM1_of fun F H s y d rv Q hs hd e g => by
    unfold splitF at e
    split at e
    · split at e
      · rename_i hl
        cases e
        exact ⟨s, _, rfl, by rw [dpt_str hd], hl.1, big_le hl.2, fun p hp => g p _ hp ⟨_, rfl, dps_of_strs _⟩⟩
      · cases e
    · cases e)
theorem sq_strs {K : PySem.W.Frag} {F H : Hp} {v : V} {ds : List D} {ss : List Str} (hs : Same F H) (hi : strsOf ds = some ss) (h : DpT K F H v (.list ds)) : ∃ a, v = .ref a ∧ SqL K H a (ss.map V.str) := by
  obtain ⟨a, xs, rfl, h1, h2⟩ := dpt_lst hs h
  rw [strsOf_eq hi] at h2
  rw [dps_strs h2] at h1
  exact ⟨a, rfl, h1⟩
theorem sq_strsT {K : PySem.W.Frag} {F H : Hp} {v : V} {ds : List D} {ss : List Str} (hs : Same F H) (hi : strsOf ds = some ss) (h : DpT K F H v (.tuple ds)) : ∃ a, v = .ref a ∧ SqT K H a (ss.map V.str) := by
  obtain ⟨a, xs, rfl, h1, h2⟩ := dpt_tup hs h
  rw [strsOf_eq hi] at h2
  rw [dps_strs h2] at h1
  exact ⟨a, rfl, h1⟩
theorem joinS_ok {s : Str} {ys : List Str} {rv : Rv} (e : joinS s ys = some rv) : (ys.map (·.length)).sum + ys.length * s.length ≤ 16777216 ∧ rv = .val (.str (Txt.join s ys)) := by
  unfold joinS at e
  split at e
  · rename_i hl
    cases e
    exact ⟨Nat.le_trans hl (by decide), rfl⟩
  · cases e
theorem den_join (ha : PE X a (tM X.K cl W ma)) (hb : PE X b (tM X.K cl W mb)) (hs : starEach [b] X.env = [(false, eval b X.env)] := by rfl) (hbase : attributeBase a "join" X.env (eval a X.env) = eval a X.env := by rfl) (hline : (apos.endLine == pos.line) = true := by rfl) :
    PE X (.Call (.Attribute a "join" apos) [b] [] pos) (tM X.K cl W (mMeth joinF ma mb)) :=
  PE.imp (pe_join ha hb hs hbase hline) (tM1_of fun F H s y d rv Q hs hd e g => by
    unfold joinF at e
    split at e
    · obtain ⟨ss, h1, h2⟩ := Option.bind_eq_some_iff.mp e
      obtain ⟨p, rfl, h3⟩ := sq_strs hs h1 hd
      obtain ⟨h4, rfl⟩ := joinS_ok h2
      exact ⟨s, p, ss, rfl, rfl, .inl h3, h4, g.str⟩
    · obtain ⟨ss, h1, h2⟩ := Option.bind_eq_some_iff.mp e
      obtain ⟨p, rfl, h3⟩ := sq_strsT hs h1 hd
      obtain ⟨h4, rfl⟩ := joinS_ok h2
      exact ⟨s, p, ss, rfl, rfl, .inr h3, h4, g.str⟩
    · cases e)
end
/-! ### int of a text -/
noncomputable def intAF : List D → Option Rv
  | [.int i] => some (.val (.int i))
  | [.bool k] => some (.val (.int (if k then 1 else 0)))
  | [.str s] => match PySem.intText? s with
    | some n => if Ok (s.length ≤ 640) then some (.val (.int n)) else none
    | none => none
  | _ => none
theorem intA_ok {K : PySem.W.Frag} : OpN K (fun xs H Q => ((∃ i, xs = [.int i] ∧ Q (.int i) H) ∨ ∃ k, xs = [.bl k] ∧ Q (.int (if k then 1 else 0)) H) ∨ ∃ a n, xs = [.str a] ∧ PySem.intText? a = some n ∧ a.length ≤ 640 ∧ Q (.int n) H) intAF := fun F H xs as rv Q hs hd e g => by
  unfold intAF at e
  split at e
  · cases e
    obtain ⟨v, rfl, h⟩ := dpts1 hd
    exact .inl (.inl ⟨_, by rw [dpt_int h], g.int⟩)
  · cases e
    obtain ⟨v, rfl, h⟩ := dpts1 hd
    exact .inl (.inr ⟨_, by rw [dpt_bl h], g.int⟩)
  · split at e
    · rename_i n hn
      split at e
      · rename_i hl
        cases e
        obtain ⟨v, rfl, h⟩ := dpts1 hd
        exact .inr ⟨_, n, by rw [dpt_str h], hn, hl, g.int⟩
      · cases e
    · cases e
  · cases e
/-! ### f-strings -/
noncomputable def fmtF : D → Option Rv
  | .str y => if Ok (y.length ≤ big) then some (.val (.str y)) else none
  | .int i => if Ok (i.natAbs.log2 < 1920) then some (.val (.str (toString i))) else none
  | _ => none
noncomputable def mJn : List (M Ret) → Str → M Ret
  | [], acc => fun E => .ok (.val (.str acc)) E
  | m :: ms, acc => fun E => (m E).bind fun r E1 => match dat E1 r with
    | some (.str y) => if Ok ((acc ++ y).length ≤ big) then mJn ms (acc ++ y) E1 else .no
    | _ => .no
noncomputable def mFs (ms : List (M Ret)) : M Ret := mJn ms Str.empty
section
variable {X : Cx} {cl : Cl} {W : WX} {e : Expr} {pos : Pos} {ma : M Ret}
theorem den_fmt (ha : PE X e (tM X.K cl W ma)) : PE X (.FormattedValue e (-1) none pos) (tM X.K cl W (m1 fmtF ma)) := PE.imp (pe_fmt ha) fun σ H Q h =>
  tUn_of (r := fun x H Q => (∃ y : Str, x = .str y ∧ y.length ≤ sizeLine ∧ Q (.str y) H) ∨ ∃ i : Int, x = .int i ∧ i.natAbs.log2 < 1920 ∧ Q (.str (toString i)) H) (f := fmtF) (fun F H y a rv Q hs hd' e' g => by
    unfold fmtF at e'
    split at e'
    · split at e'
      · rename_i hl; cases e'; exact .inl ⟨_, dpt_str hd', big_le hl, g.str⟩
      · cases e'
    · split at e'
      · rename_i hl; cases e'; exact .inr ⟨_, dpt_int hd', hl, g.str⟩
      · cases e'
    · cases e') σ H Q h
theorem tJs_of {K : PySem.W.Frag} : ∀ (ms : List (M Ret)) (acc : Str) (C : Ctx) (E : SEnv) (T : List (V × Ret)) (σ : St) (H : Hp) (Q : VK), Rel K cl C E T σ H → Run K cl W C T σ (fun r E' => ∀ v H', Rel K cl C E' (T ++ [(v, r)]) σ H' → Bor σ v r → Q v H') (mJn ms acc E) →
    tJs (ms.map fun m => tM K cl W m) acc σ H fun out H1 => Q (.str out) H1
  | [], acc, C, E, T, σ, H, Q, R, h => by
    obtain ⟨F, ρ, RF⟩ := R
    exact h (.str acc) H (RF.push_val (.str acc)).rel trivial
  | m :: ms, acc, C, E, T, σ, H, Q, R, h => by
    refine ⟨C, E, T, R, (Run.bind h).imp fun r E1 h1 v H1 R1 b1 => ?_⟩
    split at h1
    · rename_i y e1
      split at h1
      · rename_i hl
        obtain ⟨F1, ρ1, RF1⟩ := R1
        have ev := dpt_str (RF1.dat (k := T.length) (by simp) b1 e1)
        exact ⟨y, ev, big_le hl, tJs_of ms (acc ++ y) C E1 T σ H1 Q RF1.drop.rel h1⟩
      · exact h1.elim
    · exact h1.elim
theorem den_fs {v1 v2 : Expr} {rest : List Expr} {ms : List (M Ret)} (h : PJ X (v1 :: v2 :: rest) (ms.map fun m => tM X.K cl W m)) : PE X (.JoinedStr (v1 :: v2 :: rest) pos) (tM X.K cl W (mFs ms)) := PE.imp (pe_joined h) fun σ H Q q => by
  obtain ⟨C, E, T, R, h⟩ := q
  exact tJs_of ms _ C E T σ H Q R h
end
/-! ### the signs of a text -/
def sgn (c : Nat) : D := .str ⟨#[c]⟩
def mItS (m : M Ret) : MI := fun E => (m E).bind fun r E1 => match dat E1 r with
  | some (.str z) => .ok (z.cps.toList.map sgn, none) E1
  | _ => .no
theorem walks_str {K : PySem.W.Frag} {F : Hp} {z : Str} : Walks K F (Its z) (z.cps.toList.map sgn) (fun _ => True) where
  goes := fun i H hi g => by show i < z.cps.size; simpa using hi
  stops := fun H g => by show z.cps.size ≤ _; simp
  yields := fun i d H x H' e g y => by
    obtain ⟨rfl, c, h1, rfl⟩ := y
    rw [List.getElem?_map] at e
    have h2 : z.cps.toList[i]? = some c := by rw [Array.getElem?_toList]; exact h1
    rw [h2] at e
    cases e
    exact .inl ⟨rfl, .str _⟩
section
variable {X : Cx} {cl : Cl} {W : WX} {e tg : Expr} {ma : M Ret}
theorem den_itS (ha : PE X e (tM X.K cl W ma)) : PI X tg e (tMI X.K cl W (mItS ma)) := PI.imp (pi_str ha) fun σ H R h => by
  obtain ⟨C, E, T, R0, h⟩ := h
  refine ⟨C, E, T, R0, (Run.bind h).imp fun r E1 h1 v H1 R1 b1 => ?_⟩
  split at h1
  · rename_i z e1
    obtain ⟨F, ρ, RF⟩ := R1
    have ev := dpt_str (RF.dat (k := T.length) (by simp) b1 e1)
    exact ⟨z, ev, h1 _ H1 F ρ _ RF.drop walks_str (fun _ _ _ _ _ => trivial) (fun _ q => nomatch q)⟩
  · exact h1.elim
end
/-! ### a sign in a text -/
def inSF : D → D → Option Rv
  | .str c, .str z => match c.cps.toList with
    | [k] => some (.val (.bool (decide (k ∈ z.cps.toList))))
    | _ => none
  | _, _ => none
def ninSF : D → D → Option Rv
  | .str c, .str z => match c.cps.toList with
    | [k] => some (.val (.bool (!decide (k ∈ z.cps.toList))))
    | _ => none
  | _, _ => none
theorem one_sign {c : Str} {k : Nat} (h : c.cps.toList = [k]) : c = ⟨#[k]⟩ := Str.ext' (Array.toList_inj.mp h)
theorem inS_ok {K : PySem.W.Frag} : Op2 K (fun x y H Q => ∃ (c : Nat) (z : Str), x = .str ⟨#[c]⟩ ∧ y = .str z ∧ Q (.bl (decide (c ∈ z.cps.toList))) H) inSF := fun F H x y a b rv Q hs ha hb e g => by
  unfold inSF at e
  split at e
  · split at e
    · rename_i c z _ k hk
      cases e
      rw [dpt_str ha, dpt_str hb, one_sign hk]
      exact ⟨k, z, rfl, rfl, g.bool⟩
    · cases e
  · cases e
theorem ninS_ok {K : PySem.W.Frag} : Op2 K (fun x y H Q => ∃ (c : Nat) (z : Str), x = .str ⟨#[c]⟩ ∧ y = .str z ∧ Q (.bl (!decide (c ∈ z.cps.toList))) H) ninSF := fun F H x y a b rv Q hs ha hb e g => by
  unfold ninSF at e
  split at e
  · split at e
    · rename_i c z _ k hk
      cases e
      rw [dpt_str ha, dpt_str hb, one_sign hk]
      exact ⟨k, z, rfl, rfl, g.bool⟩
    · cases e
  · cases e
section
variable (E : SEnv)
@[simp] theorem e_meth (f : Str → D → Option Rv) (a b : M Ret) : mMeth f a b E = (a E).bind fun r1 E1 => match dat E1 r1 with
  | some (.str s) => (b E1).bind fun r2 E2 => (match dat E2 r2 with
    | some d => retO (f s d) E2
    | none => .no)
  | _ => .no := rfl
@[simp] theorem e_fs (ms : List (M Ret)) : mFs ms E = mJn ms Str.empty E := rfl
@[simp] theorem e_jn0 (acc : Str) : mJn [] acc E = .ok (.val (.str acc)) E := rfl
@[simp] theorem e_jn1 (m : M Ret) (ms : List (M Ret)) (acc : Str) : mJn (m :: ms) acc E = (m E).bind fun r E1 => match dat E1 r with
  | some (.str y) => if Ok ((acc ++ y).length ≤ big) then mJn ms (acc ++ y) E1 else .no
  | _ => .no := rfl
@[simp] theorem e_itS (m : M Ret) : mItS m E = (m E).bind fun r E1 => match dat E1 r with
  | some (.str z) => .ok (z.cps.toList.map sgn, none) E1
  | _ => .no := rfl
end
@[simp] theorem f_eqS (i j : Str) : eqF (.str i) (.str j) = some (.val (.bool (decide (i = j)))) := rfl
@[simp] theorem f_neS (i j : Str) : neF (.str i) (.str j) = some (.val (.bool (!decide (i = j)))) := rfl
@[simp] theorem f_slS (z : Str) (lo hi : Option Int) : slF (.str z) lo hi = if Ok (z.length ≤ big) then some (.val (.str (cutS z lo hi))) else none := rfl
@[simp] theorem f_addS (a b : Str) : addF (.str a) (.str b) = if Ok (a.length + b.length ≤ big) then some (.val (.str (a ++ b))) else none := rfl
@[simp] theorem f_lenS (y : Str) : lenF [.str y] = if Ok (y.length ≤ big) then some (.val (.int y.length)) else none := rfl
@[simp] theorem f_ixS (z : Str) (i : Int) : ixF (.str z) (.int i) = if Ok (z.length ≤ big) then (atI z.cps.toList i).map fun c => Rv.val (.str ⟨#[c]⟩) else none := rfl
@[simp] theorem f_inS (c : Nat) (z : Str) : inSF (sgn c) (.str z) = some (.val (.bool (decide (c ∈ z.cps.toList)))) := rfl
@[simp] theorem f_ninS (c : Nat) (z : Str) : ninSF (sgn c) (.str z) = some (.val (.bool (!decide (c ∈ z.cps.toList)))) := rfl
theorem f_split {s b : Str} (h : (b.length == 0) = false) (h2 : s.length + 2 ≤ big) : splitF s (.str b) = some (.own (.lst ((Txt.split s b).map PyData.str))) := by
  unfold splitF; simp only; rw [ok_pos ⟨h, h2⟩]
theorem f_join {s : Str} {ys : List Str} (h : (ys.map (·.length)).sum + ys.length * s.length ≤ 1000000) : joinF s (.list (ys.map PyData.str)) = some (.val (.str (Txt.join s ys))) := by
  show (strsOf (ys.map PyData.str)).bind (joinS s) = _
  rw [strsOf_map]
  show joinS s ys = _
  unfold joinS; rw [ok_pos h]
theorem f_joinT {s : Str} {ys : List Str} (h : (ys.map (·.length)).sum + ys.length * s.length ≤ 1000000) : joinF s (.tuple (ys.map PyData.str)) = some (.val (.str (Txt.join s ys))) := by
  show (strsOf (ys.map PyData.str)).bind (joinS s) = _
  rw [strsOf_map]
  show joinS s ys = _
  unfold joinS; rw [ok_pos h]
end MP

open PySem PySem.Spec L2
namespace MP
/-! ### str of a number or of a text -/
noncomputable def strAF : List D → Option Rv
  | [.int i] => if Ok (i.natAbs.log2 < 1920) then some (.val (.str (toString i))) else none
  | [.str a] => some (.val (.str a))
  | _ => none
theorem strA_ok {K : PySem.W.Frag} : OpN K (fun xs H Q => (∃ i, xs = [.int i] ∧ i.natAbs.log2 < 1920 ∧ Q (.str (toString i)) H) ∨ ∃ a, xs = [.str a] ∧ Q (.str a) H) strAF := fun F H xs as rv Q hs hd e g => by
  unfold strAF at e
  split at e
  · split at e
    · rename_i hl
      cases e
      obtain ⟨v, rfl, h⟩ := dpts1 hd
      exact .inl ⟨_, by rw [dpt_int h], hl, g.str⟩
    · cases e
  · cases e
    obtain ⟨v, rfl, h⟩ := dpts1 hd
    exact .inr ⟨_, by rw [dpt_str h], g.str⟩
  · cases e
theorem strA_int (i : Int) : strAF [.int i] = strF [.int i] := rfl
@[simp] theorem f_strA (a : Str) : strAF [.str a] = some (.val (.str a)) := rfl
/-! ### text methods without arguments -/
def mMeth0 (f : Str → Option Rv) (a : M Ret) : M Ret := fun E => (a E).bind fun r1 E1 => match dat E1 r1 with
  | some (.str s) => retO (f s) E1
  | _ => .no
noncomputable def isdigitF (s : Str) : Option Rv := some (.val (.bool (Txt.isdigit s)))
section
variable {X : Cx} {cl : Cl} {W : WX} {a b e : Expr} {pos apos : Pos} {ma mb : M Ret}
theorem den_isdigit (ha : PE X a (tM X.K cl W ma)) (hbase : attributeBase a "isdigit" X.env (eval a X.env) = eval a X.env := by rfl) (hline : (apos.endLine == pos.line) = true := by rfl) :
    PE X (.Call (.Attribute a "isdigit" apos) [] [] pos) (tM X.K cl W (mMeth0 isdigitF ma)) :=
  PE.imp (pe_m0 PySem.F.slot_str_isdigit PySem.F.type_str_isdigit mt_isdigit ha hbase hline) fun σ H Q h => by
    obtain ⟨C, E, T, R, h⟩ := h
    refine ⟨C, E, T, R, (Run.bind h).imp fun r1 E1 h1 v1 H1 R1 b1 => ?_⟩
    split at h1
    · rename_i s e1
      obtain ⟨rv, e3, p⟩ := retO_run h1
      obtain ⟨F1, ρ1, RF1⟩ := _root_.id R1
      have ev := dpt_str (RF1.dat (k := T.length) (by simp) b1 e1)
      subst ev
      cases e3
      exact ⟨⟨s, rfl⟩, s, rfl, rfl, trivial, (gives RF1 p).bool⟩
    · exact h1.elim
end
@[simp] theorem e_meth0 (f : Str → Option Rv) (a : M Ret) (E : SEnv) : mMeth0 f a E = (a E).bind fun r1 E1 => match dat E1 r1 with
  | some (.str s) => retO (f s) E1
  | _ => .no := rfl
end MP

/-! ### list(reversed(list)) -/
namespace RT
open PySem PySem.Spec PyProof.Rows L2
section
variable {prog : Program} {w : World} {A : Around} {E : Value → Shared → Prop} {s : Shared}
theorem extend_rev {R : Result → Shared → Prop} {it l : Addr} {items : Array Value} (hh : A.handled = none) (hit : s.heap.IsRevIter it l ((items.size : Int) - 1)) (hl : s.heap.IsList l items) (hne : l ≠ it) (hn : items.size ≤ sizeLine) (S : Addr) (res : Value) (c₀ : Nat) (hSi : S ≠ it) (hSl : S ≠ l)
    (hS : s.heap.get? S = some { cls := .type "list", data := .seq #[] c₀ })
    (hR : ∀ (h' : Heap) (tk : Nat) (acc : Array Value) (c' : Nat), (∀ b o, b ≠ it → b ≠ S → s.heap.get? b = some o → h'.get? b = some o) → h'.get? S = some { cls := .type "list", dict := none, data := .seq acc c', slots := #[] } → ItemsOf (fun i v => items[items.size - 1 - i]? = some v) acc items.size → R (.ok (.ret res)) { s with heap := h', toks := tk }) :
    wpAny (model prog w) A.in1 (Builtin.List.listExtendWith (.ref S) (.ref it) res)
      (fun fin s' => match fin with | .done f => R (.ok f) s' | .again c' => c'.quiet = true ∧ codeAny (model prog w) A c' R s') (fun e s' => R (.error e) s') s := by
  have W := (Walks.listRev (prog := prog) (w := w) (A := A.in1) hh it l hne items).toS
  have hSf : S ∉ [it, l] := by simp only [List.mem_cons, List.not_mem_nil, or_false, not_or]; exact ⟨hSi, hSl⟩
  have hT : s.TypeIs (.ref it) "list_reverseiterator" := hit.typeIs
  have h1 : Builtin.List.listSameRef (.ref S) (.ref it) = false := by simp [Builtin.List.listSameRef, hSi]
  unfold Builtin.List.listExtendWith
  refine wpAny_bind (wpAny_typeOf hT ?_)
  rw [if_neg (by rw [h1]; decide)]
  refine wpAny_bind (wpAny_pyIter_revIter hit ?_)
  refine wpAny_bind (wpAny_holding ?_)
  unfold Builtin.List.listLengthHint
  refine wpAny_bind (wpAny_specialOf hT nolen_lri ?_)
  show wpAny _ A.in1 (specialOf (Value.ref it) (Str.ofString "__length_hint__") >>= _) _ _ _
  refine wpAny_bind (wpAny_specialOf hT hint_lri ?_)
  generalize hid : ("list_reverseiterator.__length_hint__" : String) = id0
  wp_delta
  rw [show splitId id0 = some ("list_reverseiterator", "__length_hint__") from by subst hid; decide +kernel]
  subst hid
  refine wpAny_bind (wpAny_isInstance (b := true) hT (by rw [isSubtype_type]; kernel_rfl) ?_)
  refine wpAny_pure ?_
  rw [if_neg (by decide)]
  have e0 : ((items.size : Nat) : Int) - 1 - ((0 : Nat) : Int) = (items.size : Int) - 1 := by omega
  refine wpAny_pure ⟨plainId_quiet F.plain_extend_loop _, codeAny_extend_loopS W hn _ hSf _ items.size 0 _ _ _ rfl (Nat.zero_le _) ⟨Nat.zero_le _, by rw [e0]; exact hit, hl⟩ hS (ItemsOf.nil _) fun s' acc' c' hm hS' hacc => ?_⟩
  rw [Moved.eq_with hm]
  refine hR s'.heap s'.toks acc' c' (fun b o hb hb2 e => hm.heap b o (fun hmem => ?_) e) hS' hacc
  rcases List.mem_cons.mp hmem with e' | hmem
  · exact hb2 e'
  · exact hb (List.mem_singleton.mp hmem)
theorem init_rev {R : Result → Shared → Prop} {it l : Addr} {items : Array Value} (hh : A.handled = none) (hit : s.heap.IsRevIter it l ((items.size : Int) - 1)) (hl : s.heap.IsList l items) (hne : l ≠ it) (hn : items.size ≤ sizeLine) (S : Addr) (hSi : S ≠ it) (hSl : S ≠ l)
    (hS : s.heap.get? S = some { cls := .type "list", data := .seq #[] })
    (hR : ∀ (h' : Heap) (tk : Nat) (acc : Array Value) (c' : Nat), (∀ b o, b ≠ it → b ≠ S → s.heap.get? b = some o → h'.get? b = some o) → h'.get? S = some { cls := .type "list", dict := none, data := .seq acc c', slots := #[] } → ItemsOf (fun i v => items[items.size - 1 - i]? = some v) acc items.size → R (.ok (.ret .none)) { s with heap := h', toks := tk }) :
    wpAny (model prog w) A.in1 (Builtin.«list.__init__» ⟨[.ref S, .ref it], []⟩)
      (fun fin s' => match fin with | .done f => R (.ok f) s' | .again c' => c'.quiet = true ∧ codeAny (model prog w) A c' R s') (fun e s' => R (.error e) s') s := by
  show wpAny _ A.in1 (do let old ← Builtin.List.listItems (.ref S); Builtin.List.listUpdate (.ref S) (fun _ => #[]); letGo old.toList.reverse; Builtin.List.listExtendWith (.ref S) (.ref it) .none) _ _ s
  refine wpAny_bind ?_
  unfold Builtin.List.listItems
  refine wpAny_bind (wpAny_seqItems hS rfl (wpAny_pure ?_))
  show wpAny _ A.in1 (updateSeq S (fun _ => #[]) >>= fun _ => letGo (#[] : Array Value).toList.reverse >>= fun _ => Builtin.List.listExtendWith (.ref S) (.ref it) .none) _ _ s
  refine wpAny_bind (wpAny_updateSeq hS rfl ?_)
  have hS₂ := Heap.get?_update_self (Obj.mapSeq (fun _ => (#[] : Array Value))) hS rfl
  have oth : ∀ b o, b ≠ S → s.heap.get? b = some o → (s.heap.update S (Obj.mapSeq (fun _ => (#[] : Array Value)))).get? b = some o :=
    fun b o hb e => (Heap.get?_update_other _ _ (Ne.symm hb)).trans e
  refine wpAny_bind (wpAny_letGo ?_)
  obtain ⟨oi, hoi, hi2⟩ := id hit
  obtain ⟨ol, hol, hl2⟩ := id hl
  refine extend_rev (s := { s with heap := s.heap.update S (Obj.mapSeq (fun _ => (#[] : Array Value))) }) hh ⟨oi, oth it _ (Ne.symm hSi) hoi, hi2⟩ ⟨ol, oth l _ (Ne.symm hSl) hol, hl2⟩ hne hn S .none _ hSi hSl hS₂ fun h' tk acc' c' hk hS' hacc => ?_
  exact hR h' tk acc' c' (fun b o hb hb2 e => hk b o hb hb2 (oth b o hb2 e)) hS' hacc
theorem call_list_rev {it l : Addr} {items : Array Value} {Q : Value → Shared → Prop} (hh : A.handled = none) (hit : s.heap.IsRevIter it l ((items.size : Int) - 1)) (hl : s.heap.IsList l items) (hne : l ≠ it) (hn : items.size ≤ sizeLine)
    (hQ : ∀ (h' : Heap) (tk : Nat) (acc : Array Value) (c' : Nat), (∀ b o, b ≠ it → s.heap.get? b = some o → h'.get? b = some o) → h'.get? s.heap.objs.size = some { cls := .type "list", dict := none, data := .seq acc c', slots := #[] } → ItemsOf (fun i v => items[items.size - 1 - i]? = some v) acc items.size →
      Q (.ref s.heap.objs.size) { s with heap := h', toks := tk }) :
    wpAny (model prog w) A (call (.type "list") [.ref it]) Q E s := by
  obtain ⟨oi, hoi, hi2⟩ := id hit
  obtain ⟨ol, hol, hl2⟩ := id hl
  have hSi : s.heap.objs.size ≠ it := Nat.ne_of_gt (Heap.lt_size hoi)
  have hSl : s.heap.objs.size ≠ l := Nat.ne_of_gt (Heap.lt_size hol)
  refine callType_codes (Q₁ := fun obj s₁ => obj = .ref s.heap.objs.size ∧ s₁ = { s with heap := s.heap.push { cls := .type "list", data := .seq #[] } }) F.called_list (F.typeCall_list_1 _) F.entry_list_init
    (code_list_new _ ⟨rfl, rfl⟩) fun obj s₁ h₁ => ?_
  obtain ⟨rfl, rfl⟩ := h₁
  have hS : (s.heap.push { cls := .type "list", data := .seq #[] }).get? s.heap.objs.size = some { cls := .type "list", data := .seq #[] } := Heap.get?_push_size _ rfl
  refine ⟨⟨_, hS, rfl⟩, F.args_list_init_2 _ _, init_rev (A := A.in1) (s := { s with heap := s.heap.push { cls := .type "list", data := .seq #[] } }) hh ⟨oi, Heap.get?_push_of_some _ hoi, hi2⟩ (hl.push _) hne hn _ hSi hSl hS fun h' tk acc' c' hk hS' hacc => ?_⟩
  exact ⟨rfl, hQ h' tk acc' c' (fun b o hb e => hk b o hb (Nat.ne_of_lt (Heap.lt_size e)) (Heap.get?_push_of_some _ e)) hS' hacc⟩
end
section
variable {X : Cx}
def tLstRev (K : PySem.W.Frag) (te : TE) : TE := fun σ H Q => te σ H fun v H1 => ∃ (a : Addr) (xs : List V), v = .ref a ∧ SqL K H1 a xs ∧ ∀ q, H1 q = none → Q (.ref q) (upd H1 q (.lst xs.reverse))
theorem pe_lstRev {e : Expr} {te : TE} {p p2 pos pos2 : Pos} (hc : X.calm = true) (hg : Gl X "list") (hm : X.mg "list" = none) (hg2 : Gl X "reversed") (hm2 : X.mg "reversed" = none) (he : PE X e te)
    (hs : starEach [e] X.env = (false, eval e X.env) :: starEach [] X.env := by rfl)
    (hs2 : starEach [.Call (.Name "reversed" p2) [e] [] pos2] X.env = (false, eval (.Call (.Name "reversed" p2) [e] [] pos2) X.env) :: starEach [] X.env := by rfl) :
    PE X (.Call (.Name "list" p) [.Call (.Name "reversed" p2) [e] [] pos2] [] pos) (tLstRev X.K te) := by
  refine ⟨fun pins s σ H Q I h => ?_⟩
  refine Call_ (ld_blt I hg hm boot_list (PyProof.Rows.callWith_type1 (args_cons (Call_ (ld_blt I hg2 hm2 PyProof.Rows.boot_reversed (PyProof.Rows.callWith_type1 (args_cons (thn (he.run pins s σ H _ I h) fun u s1 ⟨v, H1, I1, r1, q1⟩ => args_nil ?_) hs) hs rfl))) hs2) hs2 rfl))
  obtain ⟨a, xs, ev, hq, q⟩ := q1
  subst ev
  obtain rfl : u = Value.ref a := r1
  obtain ⟨its, rv, p', hz⟩ := I1.list hq
  refine call_reversed_list p'.isList (args_nil ?_)
  have k0 : ∀ b o, s1.heap.get? b = some o → (s1.heap.push (revObj a ((its.toArray.size : Int) - 1))).get? b = some o := fun b o e => Heap.get?_push_of_some _ e
  have I2 : Inv X pins σ H1 { s1 with heap := s1.heap.push (revObj a ((its.toArray.size : Int) - 1)) } := I1.kept (t' := s1.toks) k0
  obtain ⟨f0, f1, f2, f3, f4, f5⟩ := I1.fpOk (H' := H1) (b := s1.heap.objs.size) (Nat.le_refl _) (I1.hok.fresh (Nat.le_refl _))
  have hl := p'.isList
  obtain ⟨ol, hol, _⟩ := id hl
  have hne : a ≠ s1.heap.objs.size := Nat.ne_of_lt (Heap.lt_size hol)
  have hn : its.toArray.size ≤ sizeLine := by rw [List.size_toArray, ← rv.length]; exact hz
  refine call_list_rev (s := { s1 with heap := s1.heap.push (revObj a ((its.toArray.size : Int) - 1)) }) (I1.ok.hd hc) ⟨_, Heap.get?_push_size _ rfl, rfl, rfl⟩ (hl.push _) hne hn fun h' tk acc c' hk e' hi => ?_
  have kk : ∀ b o, s1.heap.get? b = some o → h'.get? b = some o := fun b o e => hk b o (Nat.ne_of_lt (Heap.lt_size e)) (k0 b o e)
  have hg0 : (s1.heap.push (revObj a ((its.toArray.size : Int) - 1))).get? s1.heap.objs.size = some (revObj a ((its.toArray.size : Int) - 1)) := Heap.get?_push_size _ rfl
  have hsz : s1.heap.objs.size ≤ (s1.heap.push (revObj a ((its.toArray.size : Int) - 1))).objs.size := Nat.le_of_lt (Heap.lt_size hg0)
  refine ⟨.ref (s1.heap.push (revObj a ((its.toArray.size : Int) - 1))).objs.size, upd H1 (s1.heap.push (revObj a ((its.toArray.size : Int) - 1))).objs.size (.lst xs.reverse), I1.laid (t' := tk) kk hsz (show ObjOk X.prog X.w _ _ _ (.lst xs.reverse) from ⟨by rw [List.length_reverse]; exact hz, acc.toList, c', vals_rev rv hi, ?_⟩), rfl, q _ (I1.hok.fresh hsz)⟩
  rw [Array.toArray_toList]
  exact e'
end
end RT
open PySem PySem.Spec L2
namespace MP
noncomputable def lstRevF : D → Option Rv
  | .list ds => some (.own (.lst ds.reverse))
  | _ => none
section
variable {X : Cx} {cl : Cl} {W : WX} {ma : M Ret} {a : Expr} {p pos p2 pos2 : Pos}
theorem den_lstRev (hc : X.calm = true) (hg : Gl X "list") (hm : X.mg "list" = none) (hg1 : Gl X "reversed") (hm1 : X.mg "reversed" = none) (ha : PE X a (tM X.K cl W ma)) (na : starEach [a] X.env = (false, eval a X.env) :: starEach [] X.env := by rfl)
    (na2 : starEach [.Call (.Name "reversed" p2) [a] [] pos2] X.env = (false, eval (.Call (.Name "reversed" p2) [a] [] pos2) X.env) :: starEach [] X.env := by rfl) :
    PE X (.Call (.Name "list" p) [.Call (.Name "reversed" p2) [a] [] pos2] [] pos) (tM X.K cl W (m1 lstRevF ma)) :=
  PE.imp (RT.pe_lstRev hc hg hm hg1 hm1 ha na na2) fun σ H Q h => tUn_of (r := fun x H Q => ∃ a xs, x = .ref a ∧ SqL X.K H a xs ∧ ∀ p, H p = none → Q (.ref p) (upd H p (.lst xs.reverse))) (f := lstRevF) (fun F H y a rv Q hs hd' e' g => by
    unfold lstRevF at e'
    split at e'
    · cases e'
      obtain ⟨b, xs, rfl, h1, h2⟩ := dpt_lst hs hd'
      exact ⟨b, xs, rfl, h1, fun q hq => g q _ hq ⟨_, rfl, dps_rev h2⟩⟩
    · cases e') σ H Q h
end
@[simp] theorem f_lstRev (ds : List D) : lstRevF (.list ds) = some (.own (.lst ds.reverse)) := rfl
end MP

open PySem PySem.Spec L2
namespace MP
/-! ### a list that is lent to a def: the first argument, changed in place -/
/-- a def's promise by a function of the lent list and of data: the value, and the list behind it -/
def spML (K : PySem.W.Frag) (cl : Cl) (g : List D → List D → Option (D × List D)) : Sp := fun vs H Q Ex => ∃ (F0 : Hp) (ls ds : List D) (p : Addr) (us vs' : List V), TOk cl.T F0 H ∧ vs = .ref p :: vs' ∧ H p = some (.lst us) ∧ F0 p = none ∧ DpAll K F0 us ls ∧ Same F0 H ∧ DpAll K F0 vs' ds ∧ match g ls ds with
  | some (d, ls') => ∀ (v : V) (H' F' : Hp) (us' : List V), StpX cl.T p H H' → H' p = some (.lst us') → F' p = none → DpAll K F' us' ls' → Same F0 F' → Same F' H' → (∀ q o, H q = some o → F' q = F0 q) → Dp K F' v d → Q v H'
  | none => False
def convL (E : SEnv) : Ret → Option D
  | .val d => some d
  | .own _ => none
  | .bor i => match E[i]? with
    | some (.val d) => some d
    | _ => none
def runDefL (np n : Nat) (m : M Fl) (ls ds : List D) : Option (D × List D) := if ds.length + 1 = np then (match m (.lnt (.lst ls) :: (ds.map Slot.val ++ List.replicate (n - np) .un)) with
  | .ok (.rt r) E => (match convL E r, (E[0]? : Option MP.Slot) with
    | some d, some (.lnt (.lst ls')) => some (d, ls')
    | _, _ => none)
  | .ok .nx E => (match (E[0]? : Option MP.Slot) with
    | some (.lnt (.lst ls')) => some (.none, ls')
    | _ => none)
  | _ => none) else none
theorem start_relL {K : PySem.W.Frag} {cl : Cl} {F0 H : Hp} {p : Addr} {us vs : List V} {ls ds : List D} {N : List Str} (ht : TOk cl.T F0 H) (hp : H p = some (.lst us)) (hF : F0 p = none) (hu : DpAll K F0 us ls) (hs : Same F0 H) (hd : DpAll K F0 vs ds) :
    RelF K cl ⟨noT cl.T H, F0, fun i => if i = 0 then some p else none, fun _ => none⟩ F0 (fun q => if q = p then some (.s 0) else none) (.lnt (.lst ls) :: (ds.map Slot.val ++ List.replicate (N.length - (vs.length + 1)) .un)) [] (L2.start N (.ref p :: vs)) H where
  len := by unfold L2.start; simp [dps_len hd]; try omega
  f0 := L2.Same.refl F0
  fh := hs
  h0 := fun p o e _ => noT_sub p o e
  hf := fun _ _ _ => rfl
  tb := ht
  nt := fun p hp => if_pos hp
  sl := fun i v s e1 e2 => by
    unfold L2.start at e1
    cases i with
    | zero =>
      rw [List.map_cons, List.cons_append, List.getElem?_cons_zero] at e1
      rw [List.getElem?_cons_zero] at e2
      cases e1
      cases e2
      exact ⟨p, rfl, ⟨.lst us, hp, ⟨us, rfl, hu⟩, hF, if_pos rfl⟩, rfl⟩
    | succ i =>
      rw [List.map_cons, List.cons_append, List.getElem?_cons_succ] at e1
      rw [List.getElem?_cons_succ] at e2
      rcases Nat.lt_or_ge i vs.length with hi | hi
      · rw [List.getElem?_append_left (by simpa using hi)] at e1
        rw [List.getElem?_append_left (by simpa [← dps_len hd] using hi)] at e2
        rw [List.getElem?_map] at e1 e2
        cases q : vs[i]? with
        | none => rw [q] at e1; cases e1
        | some w =>
          rw [q] at e1
          cases e1
          obtain ⟨d, q2, h⟩ := dps_getV hd q
          rw [q2] at e2
          cases e2
          exact ⟨w, rfl, h⟩
      · rw [List.getElem?_append_right (by simpa [← dps_len hd] using hi)] at e2
        have : s = .un := by
          obtain ⟨_, e3⟩ := List.getElem?_eq_some_iff.mp e2
          rw [List.getElem_replicate] at e3
          exact e3.symm
        subst this
        trivial
  ln := fun i q e => by
    dsimp only at e
    split at e
    · rename_i hi
      subst hi
      cases e
      exact ⟨.lst ls, rfl, rfl⟩
    · cases e
  tm := fun k v r e => by simp at e
theorem spML_len {K : PySem.W.Frag} {cl : Cl} {np n : Nat} {m : M Fl} {vs : List V} {H : Hp} {Q : VK} {E : XK} (h : spML K cl (runDefL np n m) vs H Q E) : vs.length = np := by
  obtain ⟨F0, ls, ds, p, us, vs', _, rfl, _, _, _, _, hd, h⟩ := h
  rw [List.length_cons, dps_len hd]
  by_cases e : ds.length + 1 = np
  · exact e
  · have : runDefL np n m ls ds = none := if_neg e
    rw [this] at h
    exact h.elim
section
variable {P : Program} {w : World} {K : PySem.W.Frag} {mg : Str → Option Value} {base : Heap} {cl : Cl}
theorem den_defL {x qual : Str} {st : Stmt} {f : Addr} {fd : FuncData} {N ps : List Str} {k : Nat} {m : M Fl} (F : Fun K x qual st f fd) (S : FnScope N ps (defScope st))
    (hbody : ∀ (cdv : Value) (A : Around) (outer : List Env) (s : Shared) (H : Hp) (E : XK), Room k (A.deeper (PyProof.Rows.envOfC qual (defScope st) s.heap.objs.size f cdv)) →
      PSs (cxOf (L2.CX P w) P w K mg base N qual (defScope st) f cdv A outer s H E) (defBody st) (tMS K cl (fun c d _ H => E c d H) m)) : FnOk P w K mg base (L2.CX P w) (k + 1) f fd ps (spML K cl (runDefL ps.length N.length m)) := by
  refine F.okX S (fun vs H Q E h => spML_len h) (fun cdv A outer s H vs Q E hr h => ⟨_, hbody cdv A outer s H E hr, ?_⟩)
  have hlen := spML_len h
  obtain ⟨F0, ls, ds, p, us, vs', ht, rfl, hp, hF, hu, hs, hd, h⟩ := h
  have R := start_relL (cl := cl) (N := N) ht hp hF hu hs hd
  rw [List.length_cons] at hlen
  rw [hlen] at R
  refine ⟨_, _, [], R.rel, ?_⟩
  unfold runDefL at h
  have hl2 : ds.length + 1 = ps.length := by rw [← hlen, dps_len hd]
  rw [if_pos hl2] at h
  cases q : m (.lnt (.lst ls) :: (ds.map Slot.val ++ List.replicate (N.length - ps.length) .un)) with
  | no => rw [q] at h; exact h.elim
  | ex x E1 => rw [q] at h; exact h.elim
  | ok fl E1 =>
    rw [q] at h
    have out : ∀ {F' : Hp} {ρ' : Own} {T' : List (V × Ret)} {σ' : St} {H' : Hp} {ls' : List D}, RelF K cl ⟨noT cl.T H, F0, fun i => if i = 0 then some p else none, fun _ => none⟩ F' ρ' E1 T' σ' H' → E1[0]? = some (.lnt (.lst ls')) →
        StpX cl.T p H H' ∧ (∃ us', H' p = some (.lst us') ∧ F' p = none ∧ DpAll K F' us' ls') ∧ Same F0 F' ∧ Same F' H' ∧ ∀ q o, H q = some o → F' q = F0 q := fun {F' ρ' T' σ' H' ls'} R' e0 => by
      refine ⟨⟨fun q o hq e => R'.h0 q o e fun i z => ?_, R'.tb.1⟩, ?_, R'.f0, R'.fh, noT_hf ht.2 R'.tb.2 R'.hf⟩
      · dsimp only at z
        split at z
        · cases z; exact hq rfl
        · cases z
      · obtain ⟨o, h1, h2⟩ := R'.ln 0 p rfl
        obtain ⟨p', e, ⟨ho, g1, ⟨us', rfl, g2⟩, g3, _⟩, _⟩ := R'.sl 0 _ _ h2 e0
        cases e
        exact ⟨us', g1, g3, g2⟩
    cases fl with
    | bk => exact h.elim
    | ct => exact h.elim
    | nx =>
      intro σ' H' ⟨F', ρ', R'⟩
      dsimp only at h
      cases q0 : E1[0]? with
      | none => rw [q0] at h; exact h.elim
      | some s0 =>
        cases s0 with
        | lnt o =>
          cases o with
          | lst ls' =>
            rw [q0] at h
            obtain ⟨a, ⟨us', b1, b2, b3⟩, c, d, e⟩ := out R' q0
            exact h .non H' F' us' a b1 b2 b3 c d e .non
          | dic _ => rw [q0] at h; exact h.elim
          | dct _ => rw [q0] at h; exact h.elim
          | raw _ => rw [q0] at h; exact h.elim
        | un => rw [q0] at h; exact h.elim
        | val _ => rw [q0] at h; exact h.elim
        | own _ => rw [q0] at h; exact h.elim
        | lck _ => rw [q0] at h; exact h.elim
        | exc _ => rw [q0] at h; exact h.elim
        | fn _ => rw [q0] at h; exact h.elim
        | nst _ _ => rw [q0] at h; exact h.elim
    | rt r =>
      intro v σ' H' ⟨F', ρ', R'⟩ bo
      dsimp only at h
      cases qc : convL E1 r with
      | none => rw [qc] at h; exact h.elim
      | some dv =>
        rw [qc] at h
        have hv : Dp K F' v dv := by
          cases r with
          | val x' => cases qc; exact R'.tm 0 v _ rfl
          | own o => cases qc
          | bor i =>
            unfold convL at qc
            dsimp only at qc
            split at qc
            · rename_i x e3
              cases qc
              obtain ⟨y, z1, z2⟩ := R'.sl i _ _ (show σ'[i]? = some (some v) from bo) e3
              cases z1
              exact z2
            · cases qc
        cases q0 : E1[0]? with
        | none => rw [q0] at h; exact h.elim
        | some s0 =>
          cases s0 with
          | lnt o =>
            cases o with
            | lst ls' =>
              rw [q0] at h
              obtain ⟨a, ⟨us', b1, b2, b3⟩, c, d, e⟩ := out R' q0
              exact h v H' F' us' a b1 b2 b3 c d e hv
            | dic _ => rw [q0] at h; exact h.elim
            | dct _ => rw [q0] at h; exact h.elim
            | raw _ => rw [q0] at h; exact h.elim
          | un => rw [q0] at h; exact h.elim
          | val _ => rw [q0] at h; exact h.elim
          | own _ => rw [q0] at h; exact h.elim
          | lck _ => rw [q0] at h; exact h.elim
          | exc _ => rw [q0] at h; exact h.elim
          | fn _ => rw [q0] at h; exact h.elim
          | nst _ _ => rw [q0] at h; exact h.elim
end
theorem fnok_noL {P : Program} {w : World} {K : PySem.W.Frag} {cl : Cl} {mg : Str → Option Value} {base : Heap} {CX : CXT} {k : Nat} {f : Addr} {fd : FuncData} {ps : List Str} : FnOk P w K mg base CX k f fd ps (spML K cl fun _ _ => none) :=
  ⟨fun vs H Q E ⟨_, _, _, _, _, _, _, _, _, _, _, _, _, h⟩ => h.elim, fun A outer s H args us vs Q E _ _ _ _ ⟨_, _, _, _, _, _, _, _, _, _, _, _, _, h⟩ => h.elim⟩
/-- f(list, ..): the list is lent -/
def lentK (g : List D → List D → Option (D × List D)) (i : Nat) (ds : List D) (E2 : SEnv) : Res Ret := match (E2[i]? : Option MP.Slot) with
  | some (.own (.lst ls)) => (match g ls ds with
    | some (d, ls') => .ok (.val d) (E2.set i (.own (.lst ls')))
    | none => .no)
  | some (.lnt (.lst ls)) => (match g ls ds with
    | some (d, ls') => .ok (.val d) (E2.set i (.lnt (.lst ls')))
    | none => .no)
  | _ => .no
def mCallL (g : List D → List D → Option (D × List D)) (ms : M (List Ret)) : M Ret := fun E => (ms E).bind fun rs E1 => match rs with
  | .bor i :: rs' => (match takes E1 rs' with
    | some (ds, E2) => lentK g i ds E2
    | none => .no)
  | .own (.lst ls) :: rs' => (match takes E1 rs' with
    | some (ds, E2) => (match g ls ds with
      | some (d, _) => .ok (.val d) E2
      | none => .no)
    | none => .no)
  | _ => .no
section
variable {K : PySem.W.Frag} {cl : Cl} {C : Ctx} {F : Hp} {ρ : Own} {E : SEnv} {T : List (V × Ret)} {σ : St} {H : Hp} {p : Addr}
/-- a new object that nobody keeps is changed -/
theorem RelF.mut_last {o : MO} {ho' : HO} (R : RelF K cl C F ρ E (T ++ [(V.ref p, .own o)]) σ H) : RelF K cl C F ρ E T σ (upd H p ho') := by
  obtain ⟨p', e1, h1, h2⟩ := R.tm T.length (V.ref p) (.own o) (by simp)
  cases e1
  have hq : ∀ g, g ≠ Tag.t T.length → ∀ q o, OwnAt K F ρ H g q o → OwnAt K F ρ (upd H p ho') g q o := fun g n q o h' =>
    h'.grow (L2.Same.refl F) (fun u e => by rw [upd_ne (h'.apart h1 n)]; exact e) h'.fn rfl
  refine { len := R.len, f0 := R.f0, fh := fun q u e' => ?_, h0 := fun q u e' l => ?_, hf := R.hf, tb := ⟨let ⟨_, e0, m0, _⟩ := h1; tabs_mut R.tb.1 e0 m0, R.tb.2⟩, nt := R.nt, sl := fun j w s e1 e2 => (R.sl j w s e1 e2).grow (L2.Same.refl F) (hq _ fun z => by cases z), ln := R.ln, tm := fun k w r e' => ?_ }
  · rw [upd_ne (ne_of_none e' h1.fn)]; exact R.fh q u e'
  · rw [upd_ne (ne_of_none e' h2)]; exact R.h0 q u e' l
  · have hk : k < T.length := (List.getElem?_eq_some_iff.mp e').1
    exact (R.tm k w r (by rw [List.getElem?_append_left hk]; exact e')).grow (L2.Same.refl F) (hq _ fun z => by cases z; omega)
end
section
variable {X : Cx} {cl : Cl} {W : WX} {e : Expr} {es : List Expr} {x : Str} {p pos : Pos} {ms : M (List Ret)} {g : List D → List D → Option (D × List D)} {k : Nat} {f : Addr} {fd : FuncData} {ps : List Str}
theorem den_callL (F : FnOk X.prog X.w X.K X.mg X.base (L2.CX X.prog X.w) k f fd ps (spML X.K cl g)) (tk : Takes X W) (hr : Room k X.A) (hg : Gl X x) (hm : X.mg x = some (.ref f)) (hk : PySem.W.keepIn X.K (.ref f) = true) (hb : Binds X.K fd ps [])
    (ha : PA X (e :: es) (tMA X.K cl W ms)) (hdb : (x == ("__debug__" : Str)) = false := by decide) (he : starEach (e :: es) X.env = (false, eval e X.env) :: starEach es X.env := by rfl) (hpl : (backTo pos (starEach es X.env)).any (·.1) = false := by rfl) :
    PE X (.Call (.Name x p) (e :: es) [] pos) (tM X.K cl W (mCallL g ms)) := PE.imp (pe_callS F hr hg hm hk hb (fun σ => passAt tk σ) ha hdb he hpl) fun σ H Q h => by
  obtain ⟨C, E, T, R, h⟩ := h
  refine ⟨C, E, T, R, (Run.bind h).imp fun rs E1 h1 vs H1 R1 b1 => ?_⟩
  split at h1
  case h_3 => exact h1.elim
  case h_2 =>
    rename_i ls rs'
    split at h1
    case h_2 => exact h1.elim
    rename_i ds E2 e2
    obtain ⟨F1, ρ1, RF⟩ := R1
    cases vs with
    | nil => exact b1.elim
    | cons v0 vs' =>
      obtain ⟨b0, b1'⟩ := b1
      obtain ⟨F2, f2, R2, d2⟩ := RelF.takes (T := T ++ [(v0, .own (.lst ls))]) (rs := rs') (vs := vs') (by simpa using RF) b1' e2
      split at h1
      case h_2 => exact h1.elim
      rename_i d ls' eg
      obtain ⟨q, eq0, ⟨ho, z2, ⟨us, rfl, z3⟩, z4, z5⟩, z6⟩ := R2.tm T.length v0 (.own (.lst ls)) (by simp)
      subst eq0
      refine ⟨F2, ls, ds, q, us, vs', R2.tb, rfl, z2, z4, z3, R2.fh, d2, ?_⟩
      rw [eg]
      intro v H' F' us' hk1 hq hFq hu hF hFH hk2 hv
      have s1 : Stp cl.T H1 (upd H' q (.lst us)) := StpX.back (K := X.K) (o' := .lst ls') hk1 z2 hq ⟨us', rfl, hu⟩
      have s2 : Same F' (upd H' q (.lst us)) := fun a o e => by
        by_cases ha : a = q
        · subst ha; rw [hFq] at e; cases e
        · rw [upd_ne ha]; exact hFH a o e
      have RA := R2.after s1 hF s2 hk2
      have RM := RA.mut_last (ho' := .lst us')
      have eH : upd (upd H' q (.lst us)) q (.lst us') = H' := by
        funext a
        by_cases ha : a = q
        · subst ha; rw [hq]; simp [upd]
        · rw [upd_ne ha, upd_ne ha]
      rw [eH] at RM
      exact h1 v H' (RM.push_val hv).rel trivial
  rename_i i rs'
  split at h1
  case h_2 => exact h1.elim
  rename_i ds E2 e2
  obtain ⟨F1, ρ1, RF⟩ := R1
  cases vs with
  | nil => exact b1.elim
  | cons v0 vs' =>
    obtain ⟨b0, b1'⟩ := b1
    obtain ⟨F2, f2, R2, d2⟩ := RelF.takes (T := T ++ [(v0, .bor i)]) (rs := rs') (vs := vs') (by simpa using RF) b1' e2
    have b0' : σ[i]? = some (some v0) := b0
    have RD := R2.drop
    unfold lentK at h1
    split at h1
    · rename_i ls es
      split at h1
      case h_2 => exact h1.elim
      rename_i d ls' eg
      obtain ⟨q, eq0, ⟨ho, z2, ⟨us, rfl, z3⟩, z4, z5⟩, z6⟩ := RD.sl i _ _ b0' es
      cases eq0
      refine ⟨F2, ls, ds, q, us, vs', R2.tb, rfl, z2, z4, z3, R2.fh, d2, ?_⟩
      rw [eg]
      intro v H' F' us' hk1 hq hFq hu hF hFH hk2 hv
      have s1 : Stp cl.T H1 (upd H' q (.lst us)) := StpX.back (K := X.K) (o' := .lst ls') hk1 z2 hq ⟨us', rfl, hu⟩
      have s2 : Same F' (upd H' q (.lst us)) := fun a o e => by
        by_cases ha : a = q
        · subst ha; rw [hFq] at e; cases e
        · rw [upd_ne ha]; exact hFH a o e
      have RA := RD.after s1 hF s2 hk2
      have RM := RA.mut_own es b0' (o' := .lst ls') (ho' := .lst us') ⟨us', rfl, hu⟩
      have eH : upd (upd H' q (.lst us)) q (.lst us') = H' := by
        funext a
        by_cases ha : a = q
        · subst ha; rw [hq]; simp [upd]
        · rw [upd_ne ha, upd_ne ha]
      rw [eH] at RM
      exact h1 v H' (RM.push_val hv).rel trivial
    · rename_i ls es
      split at h1
      case h_2 => exact h1.elim
      rename_i d ls' eg
      obtain ⟨q, eq0, ⟨ho, z2, ⟨us, rfl, z3⟩, z4, z5⟩, z6⟩ := RD.sl i _ _ b0' es
      cases eq0
      refine ⟨F2, ls, ds, q, us, vs', R2.tb, rfl, z2, z4, z3, R2.fh, d2, ?_⟩
      rw [eg]
      intro v H' F' us' hk1 hq hFq hu hF hFH hk2 hv
      have s1 : Stp cl.T H1 (upd H' q (.lst us)) := StpX.back (K := X.K) (o' := .lst ls') hk1 z2 hq ⟨us', rfl, hu⟩
      have s2 : Same F' (upd H' q (.lst us)) := fun a o e => by
        by_cases ha : a = q
        · subst ha; rw [hFq] at e; cases e
        · rw [upd_ne ha]; exact hFH a o e
      have RA := RD.after s1 hF s2 hk2
      have RM := RA.mut_lnt es b0' (o' := .lst ls') (ho' := .lst us') ⟨us', rfl, hu⟩
      have eH : upd (upd H' q (.lst us)) q (.lst us') = H' := by
        funext a
        by_cases ha : a = q
        · subst ha; rw [hq]; simp [upd]
        · rw [upd_ne ha, upd_ne ha]
      rw [eH] at RM
      exact h1 v H' (RM.push_val hv).rel trivial
    · exact h1.elim
end
end MP

open PySem PySem.Spec L2
namespace MP
/-! ### a refusal that is caught, named and looked at -/
def mTryK (S : EC → Bool) (i : Nat) (m h : M Fl) : M Fl := fun E => match m E with
  | .ex x E1 => if S x.c = true ∧ x.row.isNone = true ∧ isFree E1 i = true then (match h (E1.set i (.exc x)) with
    | .ok (.rt r) E2 => .ok (.rt r) E2
    | .ok fl E2 => if isFree E2 i = true then .ok fl (E2.set i .un) else .no
    | _ => .no) else .no
  | r => r
section
variable {X : Cx} {cl : Cl} {W W2 : WX} {pos pos2 : Pos} {m h : M Fl}
theorem den_tryK (S : EC → Bool) (i : Nat) {x n : Str} {np : Pos} {body suite : List Stmt} {b1 : Stmt} {c : Value} (hs : X.stack = X.env :: X.outer) (hf : X.env.frame = some X.env.locals) (hN : X.N.Nodup) (hc : Names X x c)
    (hS : ∀ e, S e = true → PySem.W.exmOne X.K (.ref (cl e)) c = some true)
    (hb : ∀ (W : WX) (pn : List (Addr × Obj)) (xe : Value → Shared → Prop), Takes (X.tr pn xe) W → PassesOwn (model X.prog X.w) X.A X.env xe → PSs (X.tr pn xe) body (tMS X.K cl W m))
    (hsu : ∀ (a : Addr) (pn : List (Addr × Obj)), PSs (X.suite a pn) (b1 :: suite) (tMS X.K cl W2 h))
    (hi : X.N[i]? = some n := by rfl) (hln : X.env.kindOf n = some .local := by rfl) :
    PS X (.Try body [.ExceptHandler (some (.Name x np)) (some n) (b1 :: suite) pos2] [] [] pos) (tMS X.K cl W (mTryK S i m h)) :=
  PS.imp (ps_keep (tb := fun W => tMS X.K cl W m) (ts := tMS X.K cl W2 h) hs hf hN hi hln hc hb hsu) fun D σ H hh => by
    obtain ⟨C, E, T, R, h1⟩ := hh
    refine ⟨C, E, T, R, ?_⟩
    unfold mTryK at h1
    cases q : m E with
    | no => rw [q] at h1; exact h1.elim
    | ok fl E1 => rw [q] at h1; exact h1
    | ex x E1 =>
      rw [q] at h1
      dsimp only at h1
      split at h1
      case isFalse => exact h1.elim
      rename_i hh
      obtain ⟨g1, g2, g3⟩ := hh
      intro d σ1 H1 R1 hd1
      have hrow : x.row = none := by simpa using g2
      have hd2 : d = none := by unfold ExD at hd1; rw [hrow] at hd1; exact hd1
      subst hd2
      refine ⟨hS _ g1, fun a na => ?_⟩
      obtain ⟨F, ρ, RF⟩ := R1
      obtain ⟨si, ei, fi⟩ := isFree_at g3
      obtain ⟨R2, f2⟩ := RF.lay na (ExcHO (.ref (cl x.c)) none a)
      have hex : ExcOk cl (upd F a (ExcHO (.ref (cl x.c)) none a)) a x := by
        unfold ExcOk
        rw [hrow]
        exact upd_same
      have R3 := R2.put_slot (i := i) (v := .ref a) (s' := .exc x) ei fi (L2.Same.refl _) R2.fh R2.hf R2.tb.2 (fun _ _ _ _ h => .inr h) ⟨a, rfl, hex⟩
      refine ⟨C, E1.set i (.exc x), T, R3.rel, ?_⟩
      cases q2 : h (E1.set i (.exc x)) with
      | no => rw [q2] at h1; exact h1.elim
      | ex y E2 => rw [q2] at h1; exact h1.elim
      | ok fl E2 =>
        rw [q2] at h1
        cases fl with
        | rt r => exact h1
        | nx =>
          dsimp only at h1
          split at h1
          case isFalse => exact h1.elim
          rename_i hfr
          obtain ⟨sk, ek, fk⟩ := isFree_at hfr
          intro σ' H' ⟨F', ρ', R'⟩
          exact h1 _ _ (R'.wipe ek fk).rel
        | bk =>
          dsimp only at h1
          split at h1
          case isFalse => exact h1.elim
          rename_i hfr
          obtain ⟨sk, ek, fk⟩ := isFree_at hfr
          intro σ' H' ⟨F', ρ', R'⟩
          exact h1 _ _ (R'.wipe ek fk).rel
        | ct =>
          dsimp only at h1
          split at h1
          case isFalse => exact h1.elim
          rename_i hfr
          obtain ⟨sk, ek, fk⟩ := isFree_at hfr
          intro σ' H' ⟨F', ρ', R'⟩
          exact h1 _ _ (R'.wipe ek fk).rel
end
@[simp] theorem e_tryK (S : EC → Bool) (i : Nat) (m h : M Fl) (E : SEnv) : mTryK S i m h E = match m E with
  | .ex x E1 => if S x.c = true ∧ x.row.isNone = true ∧ isFree E1 i = true then (match h (E1.set i (.exc x)) with
    | .ok (.rt r) E2 => .ok (.rt r) E2
    | .ok fl E2 => if isFree E2 i = true then .ok fl (E2.set i .un) else .no
    | _ => .no) else .no
  | r => r := rfl
/-! ### is True, is not True -/
def isBF : D → D → Option Rv
  | .bool i, .bool j => some (.val (.bool (decide (i = j))))
  | _, _ => none
def notBF : D → D → Option Rv
  | .bool i, .bool j => some (.val (.bool (!decide (i = j))))
  | _, _ => none
theorem isB_ok {K : PySem.W.Frag} : Op2 K (fun x y H Q => ∃ a b, x = .bl a ∧ y = .bl b ∧ Q (.bl (decide (a = b))) H) isBF := fun F H x y a b rv Q hs ha hb e g => by
  unfold isBF at e
  split at e
  · cases e; exact ⟨_, _, dpt_bl ha, dpt_bl hb, g.bool⟩
  · cases e
theorem notB_ok {K : PySem.W.Frag} : Op2 K (fun x y H Q => ∃ a b, x = .bl a ∧ y = .bl b ∧ Q (.bl (!decide (a = b))) H) notBF := fun F H x y a b rv Q hs ha hb e g => by
  unfold notBF at e
  split at e
  · cases e; exact ⟨_, _, dpt_bl ha, dpt_bl hb, g.bool⟩
  · cases e
@[simp] theorem f_isB (i j : Bool) : isBF (.bool i) (.bool j) = some (.val (.bool (decide (i = j)))) := rfl
@[simp] theorem f_notB (i j : Bool) : notBF (.bool i) (.bool j) = some (.val (.bool (!decide (i = j)))) := rfl
/-! ### a while, step by step -/
theorem while_stop {c : M Bool} {b : M Fl} {E E1 : SEnv} (hc : c E = .ok false E1) : mWhile c b E = .ok .nx E1 := by
  have h : mWhileF c b 1 E = .ok .nx E1 := by
    simp [mWhileF, hc]
  rw [while_eq (n := 1) (by rw [h]; intro z; cases z), h]
theorem while_next {c : M Bool} {b : M Fl} {E E1 E2 : SEnv} {R : Res Fl} (hc : c E = .ok true E1) (hb : b E1 = .ok .nx E2) (hR : R ≠ .no) (h : mWhile c b E2 = R) : mWhile c b E = R := by
  by_cases he : ∃ n, mWhileF c b n E2 ≠ .no
  · obtain ⟨n, hn⟩ := he
    have e1 : mWhileF c b n E2 = R := by rw [← while_eq hn]; exact h
    have e2 : mWhileF c b (n + 1) E = R := by
      simp [mWhileF, hc, hb, e1]
    rw [while_eq (n := n + 1) (by rw [e2]; exact hR), e2]
  · unfold mWhile at h
    rw [dif_neg he] at h
    exact absurd h.symm hR
end MP

open PySem PySem.Spec L2
namespace MP
/-! ### a list or a dict that is lent to a def: any one argument -/
/-- a def's promise by a function of the data ahead, of the lent object and of the data behind -/
def spMG (K : PySem.W.Frag) (cl : Cl) (k : Nat) (g : List D → MO → List D → Option (D × MO)) : Sp := fun vs H Q Ex => ∃ (F0 : Hp) (o : MO) (ds1 ds2 : List D) (p : Addr) (ho : HO) (v1 v2 : List V), TOk cl.T F0 H ∧ v1.length = k ∧ vs = v1 ++ .ref p :: v2 ∧ H p = some ho ∧ MRep K F0 ho o ∧ F0 p = none ∧ Same F0 H ∧ DpAll K F0 v1 ds1 ∧ DpAll K F0 v2 ds2 ∧ match g ds1 o ds2 with
  | some (d, o') => ∀ (v : V) (H' F' : Hp) (ho' : HO), StpX cl.T p H H' → H' p = some ho' → F' p = none → MRep K F' ho' o' → Same F0 F' → Same F' H' → (∀ q o, H q = some o → F' q = F0 q) → Dp K F' v d → Q v H'
  | none => False
def endG (k : Nat) (E : SEnv) (d : D) : Option (D × MO) := match (E[k]? : Option MP.Slot) with
  | some (.lnt o) => some (d, o)
  | _ => none
def runDefG (k np n : Nat) (m : M Fl) (ds1 : List D) (o : MO) (ds2 : List D) : Option (D × MO) := if ds1.length = k ∧ ds1.length + ds2.length + 1 = np then (match m (ds1.map Slot.val ++ .lnt o :: (ds2.map Slot.val ++ List.replicate (n - np) .un)) with
  | .ok (.rt r) E => (match convL E r with
    | some d => endG k E d
    | none => none)
  | .ok .nx E => endG k E .none
  | _ => none) else none
theorem start_at {N : List Str} {vs : List V} {i : Nat} (h : i < vs.length) : (L2.start N vs)[i]? = some (some vs[i]) := by
  unfold L2.start
  rw [List.getElem?_append_left (by simpa using h), List.getElem?_map, List.getElem?_eq_getElem h]; rfl
theorem start_relG {K : PySem.W.Frag} {cl : Cl} {F0 H : Hp} {p : Addr} {ho : HO} {o : MO} {v1 v2 : List V} {ds1 ds2 : List D} {N : List Str} (ht : TOk cl.T F0 H) (hp : H p = some ho) (hm : MRep K F0 ho o) (hF : F0 p = none) (hs : Same F0 H) (h1 : DpAll K F0 v1 ds1) (h2 : DpAll K F0 v2 ds2) :
    RelF K cl ⟨noT cl.T H, F0, fun i => if i = v1.length then some p else none, fun _ => none⟩ F0 (fun q => if q = p then some (.s v1.length) else none) (ds1.map Slot.val ++ .lnt o :: (ds2.map Slot.val ++ List.replicate (N.length - (v1.length + v2.length + 1)) .un)) [] (L2.start N (v1 ++ .ref p :: v2)) H where
  len := by unfold L2.start; simp [dps_len h1, dps_len h2]; omega
  f0 := L2.Same.refl F0
  fh := hs
  h0 := fun p o e _ => noT_sub p o e
  hf := fun _ _ _ => rfl
  tb := ht
  nt := fun p hp => if_pos hp
  sl := fun i v s e1 e2 => by
    have l1 := dps_len h1
    have l2 := dps_len h2
    rcases Nat.lt_trichotomy i v1.length with hi | hi | hi
    · rw [List.getElem?_append_left (by rw [List.length_map, ← l1]; exact hi), List.getElem?_map] at e2
      rw [start_at (by simp; omega), List.getElem_append_left hi] at e1
      cases e1
      obtain ⟨d, q2, h⟩ := dps_getV h1 (List.getElem?_eq_getElem hi)
      rw [q2] at e2
      cases e2
      exact ⟨_, rfl, h⟩
    · subst hi
      have eE : (ds1.map Slot.val ++ MP.Slot.lnt o :: (ds2.map Slot.val ++ List.replicate (N.length - (v1.length + v2.length + 1)) .un))[v1.length]? = some (.lnt o) := by
        rw [List.getElem?_append_right (by rw [List.length_map, l1]; exact Nat.le_refl _), List.length_map, l1, Nat.sub_self]; rfl
      rw [eE] at e2
      cases e2
      rw [start_at (by simp), List.getElem_append_right (Nat.le_refl _)] at e1
      simp only [Nat.sub_self, List.getElem_cons_zero] at e1
      cases e1
      exact ⟨p, rfl, ⟨ho, hp, hm, hF, if_pos rfl⟩, if_pos rfl⟩
    · obtain ⟨j, rfl⟩ : ∃ j, i = v1.length + 1 + j := ⟨i - (v1.length + 1), by omega⟩
      have eE : (ds1.map Slot.val ++ MP.Slot.lnt o :: (ds2.map Slot.val ++ List.replicate (N.length - (v1.length + v2.length + 1)) .un))[v1.length + 1 + j]? = (ds2.map Slot.val ++ List.replicate (N.length - (v1.length + v2.length + 1)) .un)[j]? := by
        rw [List.getElem?_append_right (by rw [List.length_map, l1]; omega), List.length_map, ← l1, show v1.length + 1 + j - v1.length = j + 1 by omega, List.getElem?_cons_succ]
      rw [eE] at e2
      rcases Nat.lt_or_ge j v2.length with hj | hj
      · rw [List.getElem?_append_left (by rw [List.length_map, ← l2]; exact hj), List.getElem?_map] at e2
        rw [start_at (by simp; omega), List.getElem_append_right (by omega)] at e1
        simp only [show v1.length + 1 + j - v1.length = j + 1 by omega, List.getElem_cons_succ] at e1
        cases e1
        obtain ⟨d, q2, h⟩ := dps_getV h2 (List.getElem?_eq_getElem hj)
        rw [q2] at e2
        cases e2
        exact ⟨_, rfl, h⟩
      · rw [List.getElem?_append_right (by rw [List.length_map, ← l2]; exact hj)] at e2
        have : s = .un := by
          obtain ⟨_, e3⟩ := List.getElem?_eq_some_iff.mp e2
          rw [List.getElem_replicate] at e3
          exact e3.symm
        subst this
        trivial
  ln := fun i q e => by
    dsimp only at e
    split at e
    · rename_i hi
      subst hi
      cases e
      refine ⟨o, ?_, ?_⟩
      · rw [List.getElem?_append_right (by rw [List.length_map, dps_len h1]; exact Nat.le_refl _), List.length_map, dps_len h1, Nat.sub_self]; rfl
      · rw [start_at (by simp), List.getElem_append_right (Nat.le_refl _)]
        simp
    · cases e
  tm := fun k v r e => by simp at e
theorem spMG_len {K : PySem.W.Frag} {cl : Cl} {k np n : Nat} {m : M Fl} {vs : List V} {H : Hp} {Q : VK} {E : XK} (h : spMG K cl k (runDefG k np n m) vs H Q E) : vs.length = np := by
  obtain ⟨F0, o, ds1, ds2, p, ho, v1, v2, ht, hk, rfl, _, _, _, _, h1, h2, h⟩ := h
  rw [List.length_append, List.length_cons, dps_len h1, dps_len h2]
  by_cases e : ds1.length = k ∧ ds1.length + ds2.length + 1 = np
  · omega
  · have : runDefG k np n m ds1 o ds2 = none := if_neg e
    rw [this] at h
    exact h.elim
section
variable {P : Program} {w : World} {K : PySem.W.Frag} {mg : Str → Option Value} {base : Heap} {cl : Cl}
theorem den_defG (kk : Nat) {x qual : Str} {st : Stmt} {f : Addr} {fd : FuncData} {N ps : List Str} {k : Nat} {m : M Fl} (F : Fun K x qual st f fd) (S : FnScope N ps (defScope st))
    (hbody : ∀ (cdv : Value) (A : Around) (outer : List Env) (s : Shared) (H : Hp) (E : XK), Room k (A.deeper (PyProof.Rows.envOfC qual (defScope st) s.heap.objs.size f cdv)) →
      PSs (cxOf (L2.CX P w) P w K mg base N qual (defScope st) f cdv A outer s H E) (defBody st) (tMS K cl (fun c d _ H => E c d H) m)) : FnOk P w K mg base (L2.CX P w) (k + 1) f fd ps (spMG K cl kk (runDefG kk ps.length N.length m)) := by
  refine F.okX S (fun vs H Q E h => spMG_len h) (fun cdv A outer s H vs Q E hr h => ⟨_, hbody cdv A outer s H E hr, ?_⟩)
  have hlen := spMG_len h
  obtain ⟨F0, o, ds1, ds2, p, ho, v1, v2, ht, hk, rfl, hp, hm, hF, hs, h1, h2, h⟩ := h
  have R := start_relG (cl := cl) (N := N) ht hp hm hF hs h1 h2
  have hlen' : v1.length + v2.length + 1 = ps.length := by rw [← hlen, List.length_append, List.length_cons]; omega
  rw [hlen'] at R
  refine ⟨_, _, [], R.rel, ?_⟩
  unfold runDefG at h
  have l1 := dps_len h1
  have l2 := dps_len h2
  rw [if_pos ⟨by omega, by omega⟩] at h
  cases q : m (ds1.map Slot.val ++ .lnt o :: (ds2.map Slot.val ++ List.replicate (N.length - ps.length) .un)) with
  | no => rw [q] at h; exact h.elim
  | ex x E1 => rw [q] at h; exact h.elim
  | ok fl E1 =>
    rw [q] at h
    have out : ∀ {F' : Hp} {ρ' : Own} {T' : List (V × Ret)} {σ' : St} {H' : Hp} {o' : MO}, RelF K cl ⟨noT cl.T H, F0, fun i => if i = v1.length then some p else none, fun _ => none⟩ F' ρ' E1 T' σ' H' → E1[kk]? = some (.lnt o') →
        StpX cl.T p H H' ∧ (∃ ho', H' p = some ho' ∧ F' p = none ∧ MRep K F' ho' o') ∧ Same F0 F' ∧ Same F' H' ∧ ∀ q o, H q = some o → F' q = F0 q := fun {F' ρ' T' σ' H' o'} R' e0 => by
      refine ⟨⟨fun q o hq e => R'.h0 q o e fun i z => ?_, R'.tb.1⟩, ?_, R'.f0, R'.fh, noT_hf ht.2 R'.tb.2 R'.hf⟩
      · dsimp only at z
        split at z
        · cases z; exact hq rfl
        · cases z
      · obtain ⟨o2, h1, h2⟩ := R'.ln kk p (if_pos hk.symm)
        obtain ⟨p', e, ⟨ho2, g1, g2, g3, _⟩, _⟩ := R'.sl kk _ _ h2 e0
        cases e
        exact ⟨ho2, g1, g3, g2⟩
    have fin : ∀ {d : D} {F' : Hp} {ρ' : Own} {T' : List (V × Ret)} {σ' : St} {H' : Hp} {v : V}, RelF K cl ⟨noT cl.T H, F0, fun i => if i = v1.length then some p else none, fun _ => none⟩ F' ρ' E1 T' σ' H' → Dp K F' v d →
        (match endG kk E1 d with
        | some (d, o') => ∀ (v : V) (H' F' : Hp) (ho' : HO), StpX cl.T p H H' → H' p = some ho' → F' p = none → MRep K F' ho' o' → Same F0 F' → Same F' H' → (∀ q o, H q = some o → F' q = F0 q) → Dp K F' v d → Q v H'
        | none => False) → Q v H' := fun {d F' ρ' T' σ' H' v} R' hv h => by
      unfold endG at h
      cases q0 : E1[kk]? with
      | none => rw [q0] at h; exact h.elim
      | some s0 =>
        cases s0 with
        | lnt o' =>
          rw [q0] at h
          obtain ⟨a, ⟨us', b1, b2, b3⟩, c, d, e⟩ := out R' q0
          exact h v H' F' us' a b1 b2 b3 c d e hv
        | un => rw [q0] at h; exact h.elim
        | val _ => rw [q0] at h; exact h.elim
        | own _ => rw [q0] at h; exact h.elim
        | lck _ => rw [q0] at h; exact h.elim
        | exc _ => rw [q0] at h; exact h.elim
        | fn _ => rw [q0] at h; exact h.elim
        | nst _ _ => rw [q0] at h; exact h.elim
    cases fl with
    | bk => exact h.elim
    | ct => exact h.elim
    | nx =>
      intro σ' H' ⟨F', ρ', R'⟩
      exact fin R' .non h
    | rt r =>
      intro v σ' H' ⟨F', ρ', R'⟩ bo
      dsimp only at h
      cases qc : convL E1 r with
      | none => rw [qc] at h; exact h.elim
      | some dv =>
        rw [qc] at h
        have hv : Dp K F' v dv := by
          cases r with
          | val x' => cases qc; exact R'.tm 0 v _ rfl
          | own o => cases qc
          | bor i =>
            unfold convL at qc
            dsimp only at qc
            split at qc
            · rename_i x e3
              cases qc
              obtain ⟨y, z1, z2⟩ := R'.sl i _ _ (show σ'[i]? = some (some v) from bo) e3
              cases z1
              exact z2
            · cases qc
        exact fin R' hv h
end
theorem fnok_noG {P : Program} {w : World} {K : PySem.W.Frag} {cl : Cl} {mg : Str → Option Value} {base : Heap} {CX : CXT} {k kk : Nat} {f : Addr} {fd : FuncData} {ps : List Str} : FnOk P w K mg base CX k f fd ps (spMG K cl kk fun _ _ _ => none) :=
  ⟨fun vs H Q E ⟨_, _, _, _, _, _, _, _, _, _, _, _, _, _, _, _, _, h⟩ => h.elim, fun A outer s H args us vs Q E _ _ _ _ ⟨_, _, _, _, _, _, _, _, _, _, _, _, _, _, _, _, _, h⟩ => h.elim⟩
section
variable {K : PySem.W.Frag} {cl : Cl} {C : Ctx} {F : Hp} {ρ : Own} {E : SEnv} {T : List (V × Ret)} {σ : St} {H : Hp} {p : Addr}
theorem RelF.takesT : ∀ {rs : List Ret} {vs : List V} {T T2 : List (V × Ret)} {F : Hp} {E : SEnv} {ds : List D} {E' : SEnv}, RelF K cl C F ρ E (T ++ (vs.zip rs ++ T2)) σ H → Bors σ vs rs → MP.takes E rs = some (ds, E') →
    ∃ F', Same F F' ∧ RelF K cl C F' ρ E' (T ++ (vs.zip (ds.map Ret.val) ++ T2)) σ H ∧ DpAll K F' vs ds
  | [], [], T, T2, F, E, ds, E', R, _, h => by cases h; exact ⟨F, L2.Same.refl F, by simpa using R, .nil⟩
  | r :: rs, v :: vs, T, T2, F, E, ds, E', R, b, h => by
    unfold MP.takes at h
    split at h
    · rename_i d E1 e1
      split at h
      · rename_i ds2 E2 e2
        cases h
        obtain ⟨F1, f1, R1, h1⟩ := RelF.take (T := T) (T2 := vs.zip rs ++ T2) (r := r) (v := v) R b.1 e1
        have R1' : RelF K cl C F1 ρ E1 ((T ++ [(v, .val d)]) ++ (vs.zip rs ++ T2)) σ H := by rw [List.append_assoc]; exact R1
        obtain ⟨F2, f2, R2, h2⟩ := RelF.takesT R1' b.2 e2
        have h3 : Dp K F2 v d := R2.tm T.length v (.val d) (by simp)
        refine ⟨F2, L2.Same.trans f1 f2, ?_, .cons h3 h2⟩
        rw [List.append_assoc] at R2
        exact R2
      · cases h
    · cases h
theorem bors_app {σ : St} : ∀ {vs : List V} {r1 : List Ret} {r : Ret} {r2 : List Ret}, Bors σ vs (r1 ++ r :: r2) → ∃ v1 v v2, vs = v1 ++ v :: v2 ∧ v1.length = r1.length ∧ Bors σ v1 r1 ∧ Bor σ v r ∧ Bors σ v2 r2
  | v :: vs, [], r, r2, h => ⟨[], v, vs, rfl, rfl, trivial, h.1, h.2⟩
  | v :: vs, r0 :: r1, r, r2, h => by
    obtain ⟨v1, v', v2, e, l, b1, b, b2⟩ := bors_app (r1 := r1) h.2
    exact ⟨v :: v1, v', v2, by rw [e]; rfl, congrArg (· + 1) l, ⟨h.1, b1⟩, b, b2⟩
  | [], [], _, _, h => h.elim
  | [], _ :: _, _, _, h => h.elim
theorem takes_app {E : SEnv} : ∀ {r1 r2 : List Ret} {ds : List D} {E' : SEnv}, MP.takes E (r1 ++ r2) = some (ds, E') → ∃ d1 d2 E1, ds = d1 ++ d2 ∧ d1.length = r1.length ∧ MP.takes E r1 = some (d1, E1) ∧ MP.takes E1 r2 = some (d2, E') := by
  intro r1
  induction r1 generalizing E with
  | nil => intro r2 ds E' h; exact ⟨[], ds, E, rfl, rfl, rfl, h⟩
  | cons r r1 ih =>
    intro r2 ds E' h
    rw [List.cons_append, MP.takes] at h
    split at h
    · rename_i d E1 e1
      split at h
      · rename_i ds2 E2 e2
        cases h
        obtain ⟨d1, d2, E3, rfl, l, q1, q2⟩ := ih e2
        refine ⟨d :: d1, d2, E3, rfl, congrArg (· + 1) l, ?_, q2⟩
        rw [MP.takes, e1]
        simp only [q1]
      · cases h
    · cases h
end
/-- f(.., list or dict, ..): it is lent -/
def lentG (g : List D → MO → List D → Option (D × MO)) (k i : Nat) (ds : List D) (E2 : SEnv) : Res Ret := match (E2[i]? : Option MP.Slot) with
  | some (.own o) => (match g (ds.take k) o (ds.drop k) with
    | some (d, o') => .ok (.val d) (E2.set i (.own o'))
    | none => .no)
  | some (.lnt o) => (match g (ds.take k) o (ds.drop k) with
    | some (d, o') => .ok (.val d) (E2.set i (.lnt o'))
    | none => .no)
  | _ => .no
def mCallG (k : Nat) (g : List D → MO → List D → Option (D × MO)) (ms : M (List Ret)) : M Ret := fun E => (ms E).bind fun rs E1 => match rs.drop k with
  | .bor i :: r2 => (match takes E1 (rs.take k ++ r2) with
    | some (ds, E2) => lentG g k i ds E2
    | none => .no)
  | .own o :: r2 => (match takes E1 (rs.take k ++ r2) with
    | some (ds, E2) => (match g (ds.take k) o (ds.drop k) with
      | some (d, _) => .ok (.val d) E2
      | none => .no)
    | none => .no)
  | _ => .no
section
variable {X : Cx} {cl : Cl} {W : WX} {es : List Expr} {x : Str} {p pos : Pos} {ms : M (List Ret)} {g : List D → MO → List D → Option (D × MO)} {k kk : Nat} {f : Addr} {fd : FuncData} {ps : List Str}
theorem den_callG (kk : Nat) (F : FnOk X.prog X.w X.K X.mg X.base (L2.CX X.prog X.w) k f fd ps (spMG X.K cl kk g)) (tk : Takes X W) (hr : Room k X.A) (hg : Gl X x) (hm : X.mg x = some (.ref f)) (hk : PySem.W.keepIn X.K (.ref f) = true) (hb : Binds X.K fd ps [])
    {e : Expr} (ha : PA X (e :: es) (tMA X.K cl W ms)) (hdb : (x == ("__debug__" : Str)) = false := by decide) (he : starEach (e :: es) X.env = (false, eval e X.env) :: starEach es X.env := by rfl) (hpl : (backTo pos (starEach es X.env)).any (·.1) = false := by rfl) :
    PE X (.Call (.Name x p) (e :: es) [] pos) (tM X.K cl W (mCallG kk g ms)) := PE.imp (pe_callS F hr hg hm hk hb (fun σ => passAt tk σ) ha hdb he hpl) fun σ H Q h => by
  obtain ⟨C, E, T, R, h⟩ := h
  refine ⟨C, E, T, R, (Run.bind h).imp fun rs E1 h1 vs H1 R1 b1 => ?_⟩
  obtain ⟨F1, ρ1, RF⟩ := R1
  have key : ∀ {r : Ret} {r2 : List Ret} {ds : List D} {E2 : SEnv}, rs.drop kk = r :: r2 → takes E1 (rs.take kk ++ r2) = some (ds, E2) → ∃ (v1 : List V) (v : V) (v2 : List V) (F2 : Hp), vs = v1 ++ v :: v2 ∧ v1.length = kk ∧ Bor σ v r ∧ Same F1 F2 ∧ RelF X.K cl C F2 ρ1 E2 (T ++ (v1.zip ((ds.take kk).map Ret.val) ++ [(v, r)])) σ H1 ∧ DpAll X.K F2 v1 (ds.take kk) ∧ DpAll X.K F2 v2 (ds.drop kk) := fun {r r2 ds E2} e e2 => by
    have hrs : rs = rs.take kk ++ r :: r2 := by rw [← e, List.take_append_drop]
    have hkl : (rs.take kk).length = kk := by
      have := congrArg List.length e
      rw [List.length_drop, List.length_cons] at this
      rw [List.length_take]; omega
    rw [hrs] at b1 RF
    obtain ⟨v1, v, v2, rfl, hl, c1, c0, c2⟩ := bors_app b1
    obtain ⟨d1, d2, E3, rfl, hd1, q1, q2⟩ := takes_app e2
    have hz : (v1 ++ v :: v2).zip (rs.take kk ++ r :: r2) = v1.zip (rs.take kk) ++ ([(v, r)] ++ v2.zip r2) := by
      rw [List.zip_append hl]; rfl
    rw [hz] at RF
    obtain ⟨F2, f2, R2, g1⟩ := RF.takesT c1 q1
    have R2' : RelF X.K cl C F2 ρ1 E3 ((T ++ (v1.zip (d1.map Ret.val) ++ [(v, r)])) ++ v2.zip r2) σ H1 := by
      have : T ++ (v1.zip (d1.map Ret.val) ++ ([(v, r)] ++ v2.zip r2)) = (T ++ (v1.zip (d1.map Ret.val) ++ [(v, r)])) ++ v2.zip r2 := by simp [List.append_assoc]
      rw [← this]; exact R2
    obtain ⟨F3, f3, R3, g2⟩ := R2'.takes c2 q2
    have ht : (d1 ++ d2).take kk = d1 := by rw [List.take_left' (by omega)]
    have hdr : (d1 ++ d2).drop kk = d2 := by rw [List.drop_left' (by omega)]
    rw [ht, hdr]
    exact ⟨v1, v, v2, F3, rfl, by omega, c0, L2.Same.trans f2 f3, R3, dps_mono f3 g1, g2⟩
  have after : ∀ {F2 F' H' : Hp} {q : Addr} {ho ho' : HO} {o' : MO}, F2 q = none → H1 q = some ho → StpX cl.T q H1 H' → H' q = some ho' → MRep X.K F' ho' o' → F' q = none → Same F' H' →
      Stp cl.T H1 (upd H' q ho) ∧ Same F' (upd H' q ho) ∧ upd (upd H' q ho) q ho' = H' := fun {F2 F' H' q ho ho' o'} z4 z2 hk1 hq hm hFq hFH => by
    refine ⟨hk1.back z2 hq hm, fun a o e => ?_, ?_⟩
    · by_cases ha : a = q
      · subst ha; rw [hFq] at e; cases e
      · rw [upd_ne ha]; exact hFH a o e
    · funext a
      by_cases ha : a = q
      · subst ha; rw [hq]; simp [upd]
      · rw [upd_ne ha, upd_ne ha]
  split at h1
  case h_3 => exact h1.elim
  case h_2 =>
    rename_i o r2 er
    split at h1
    case h_2 => exact h1.elim
    rename_i ds E2 e2
    obtain ⟨v1, v, v2, F2, rfl, hl, c0, f2, R2, g1, g2⟩ := key er e2
    split at h1
    case h_2 => exact h1.elim
    rename_i d o' eg
    have R2' : RelF X.K cl C F2 ρ1 E2 ((T ++ v1.zip ((ds.take kk).map Ret.val)) ++ [(v, .own o)]) σ H1 := by rw [List.append_assoc]; exact R2
    obtain ⟨q, eq0, ⟨ho, z2, z3, z4, z5⟩, z6⟩ := R2'.tm (T ++ v1.zip ((ds.take kk).map Ret.val)).length v (.own o) (by simp)
    subst eq0
    refine ⟨F2, o, ds.take kk, ds.drop kk, q, ho, v1, v2, R2.tb, hl, rfl, z2, z3, z4, R2.fh, g1, g2, ?_⟩
    rw [eg]
    intro v' H' F' ho' hk1 hq hFq hu hF hFH hk2 hv
    obtain ⟨s1, s2, eH⟩ := after (F2 := F2) z4 z2 hk1 hq hu hFq hFH
    have RA := R2'.after s1 hF s2 hk2
    have RM := RA.mut_last (ho' := ho')
    rw [eH] at RM
    exact h1 v' H' (RM.drop.push_val hv).rel trivial
  rename_i i r2 er
  split at h1
  case h_2 => exact h1.elim
  rename_i ds E2 e2
  obtain ⟨v1, v, v2, F2, rfl, hl, c0, f2, R2, g1, g2⟩ := key er e2
  have b0' : σ[i]? = some (some v) := c0
  have RD : RelF X.K cl C F2 ρ1 E2 T σ H1 := R2.drop
  unfold lentG at h1
  split at h1
  · rename_i o es
    split at h1
    case h_2 => exact h1.elim
    rename_i d o' eg
    obtain ⟨q, eq0, ⟨ho, z2, z3, z4, z5⟩, z6⟩ := RD.sl i _ _ b0' es
    cases eq0
    refine ⟨F2, o, ds.take kk, ds.drop kk, q, ho, v1, v2, RD.tb, hl, rfl, z2, z3, z4, RD.fh, g1, g2, ?_⟩
    rw [eg]
    intro v' H' F' ho' hk1 hq hFq hu hF hFH hk2 hv
    obtain ⟨s1, s2, eH⟩ := after (F2 := F2) z4 z2 hk1 hq hu hFq hFH
    have RA := RD.after s1 hF s2 hk2
    have RM := RA.mut_own es b0' (o' := o') (ho' := ho') hu
    rw [eH] at RM
    exact h1 v' H' (RM.push_val hv).rel trivial
  · rename_i o es
    split at h1
    case h_2 => exact h1.elim
    rename_i d o' eg
    obtain ⟨q, eq0, ⟨ho, z2, z3, z4, z5⟩, z6⟩ := RD.sl i _ _ b0' es
    cases eq0
    refine ⟨F2, o, ds.take kk, ds.drop kk, q, ho, v1, v2, RD.tb, hl, rfl, z2, z3, z4, RD.fh, g1, g2, ?_⟩
    rw [eg]
    intro v' H' F' ho' hk1 hq hFq hu hF hFH hk2 hv
    obtain ⟨s1, s2, eH⟩ := after (F2 := F2) z4 z2 hk1 hq hu hFq hFH
    have RA := RD.after s1 hF s2 hk2
    have RM := RA.mut_lnt es b0' (o' := o') (ho' := ho') hu
    rw [eH] at RM
    exact h1 v' H' (RM.push_val hv).rel trivial
  · exact h1.elim
end
end MP

open PySem PySem.Spec L2
namespace MP
/-! ### dicts whose keys are tuples of numbers and texts: one's own or lent -/
def keysD : List D → Option (List Key)
  | [] => some []
  | d :: ds => match keyD d, keysD ds with
    | some k, some ks => some (k :: ks)
    | _, _ => none
def keyT : D → Option (List Key)
  | .tuple ds => keysD ds
  | _ => none
theorem keysD_dps {K : PySem.W.Frag} {F : Hp} : ∀ {vs : List V} {ds : List D} {ks : List Key}, DpAll K F vs ds → keysD ds = some ks → vs = ks.map kV
  | _, _, _, .nil, e => by cases e; rfl
  | _, _, _, .cons h hs, e => by
    unfold keysD at e
    split at e
    · rename_i k ks e1 e2
      cases e
      rw [List.map_cons, ← keysD_dps hs e2]
      congr 1
      unfold keyD at e1
      split at e1
      · cases e1; cases h; rfl
      · cases e1; cases h; rfl
      · cases e1
    · cases e
theorem key_dptT {K : PySem.W.Frag} {F H : Hp} {v : V} {d : D} {ks : List Key} (hs : Same F H) (h : DpT K F H v d) (e : keyT d = some ks) : ∃ b, v = .ref b ∧ H b = some (.tup (ks.map kV)) := by
  unfold keyT at e
  split at e
  · cases (show Dp K F v _ from h) with
    | tup h1 h2 => rw [keysD_dps h2 e] at h1; exact ⟨_, rfl, hs _ _ h1⟩
  · cases e
def dctOf (s : Option Slot) : Option (List (List Key × D)) := match s with
  | some (.own (.dct kds)) => some kds
  | some (.lnt (.dct kds)) => some kds
  | _ => none
def putDct (s : Option Slot) (kds : List (List Key × D)) : Slot := match s with
  | some (.lnt _) => .lnt (.dct kds)
  | _ => .own (.dct kds)
section
variable {K : PySem.W.Frag} {cl : Cl} {C : Ctx} {F : Hp} {ρ : Own} {E : SEnv} {T : List (V × Ret)} {σ : St} {H : Hp} {i : Nat}
theorem dct_at (R : RelF K cl C F ρ E T σ H) {w : Option V} (hw : σ[i]? = some w) {kds : List (List Key × D)} (h : dctOf E[i]? = some kds) :
    ∃ q kvs, w = some (.ref q) ∧ H q = some (.dT kvs) ∧ PrK K F kvs kds ∧ ∀ kvs' kds', PrK K F kvs' kds' → ∃ ρ', RelF K cl C F ρ' (E.set i (putDct E[i]? kds')) T σ (upd H q (.dT kvs')) := by
  unfold dctOf at h
  split at h
  · rename_i es
    cases h
    obtain ⟨q, rfl, ⟨ho, z2, ⟨kvs, rfl, z3⟩, z4, z5⟩, z6⟩ := R.sl i _ _ hw es
    refine ⟨q, kvs, rfl, z2, z3, fun kvs' kds' h' => ⟨ρ, ?_⟩⟩
    rw [es]
    exact R.mut_own es hw (o' := .dct kds') ⟨_, rfl, h'⟩
  · rename_i es
    cases h
    obtain ⟨q, rfl, ⟨ho, z2, ⟨kvs, rfl, z3⟩, z4, z5⟩, z6⟩ := R.sl i _ _ hw es
    refine ⟨q, kvs, rfl, z2, z3, fun kvs' kds' h' => ⟨ρ, ?_⟩⟩
    rw [es]
    exact R.mut_lnt es hw (o' := .dct kds') ⟨_, rfl, h'⟩
  · cases h
theorem dct_there (R : RelF K cl C F ρ E T σ H) {kds : List (List Key × D)} (h : dctOf E[i]? = some kds) : ∃ w, σ[i]? = some w := by
  cases q : E[i]? with
  | none => rw [q] at h; cases h
  | some s => exact slot_there R q
end
def tinE (neg : Bool) (s : Option Slot) (d : Option D) : Option Rv := match dctOf s, d.bind keyT with
  | some kds, some k => some (.val (.bool (if neg then !(valD kds k).isSome else (valD kds k).isSome)))
  | _, _ => none
/-- key in d, key not in d -/
def mTin (neg : Bool) (i : Nat) (mk : M Ret) : M Ret := fun E => (mk E).bind fun r E1 => retO (tinE neg E1[i]? (dat E1 r)) E1
section
variable {X : Cx} {cl : Cl} {W : WX} {e o : Expr} {pos vpos : Pos} {mk mv : M Ret}
theorem tin_of (i : Nat) (neg : Bool) (σ : St) (H : Hp) (Q : VK) (h : tM X.K cl W (mTin neg i mk) σ H Q) : (if neg then tDNotIn (tM X.K cl W mk) (tVar i) σ H Q else tDIn (tM X.K cl W mk) (tVar i) σ H Q) := by
  obtain ⟨C, E, T, R, h⟩ := h
  have key : tM X.K cl W mk σ H fun y H1 => tVar i σ H1 fun x H2 => ∃ a o, x = .ref a ∧ DGet H2 a y o ∧ Q (.bl (if neg then !o.isSome else o.isSome)) H2 := by
    refine ⟨C, E, T, R, (Run.bind h).imp fun r E1 h1 v1 H1 R1 b1 => ?_⟩
    obtain ⟨rv, e1, p⟩ := retO_run h1
    unfold tinE at e1
    split at e1
    · rename_i kds k es ek
      cases e1
      obtain ⟨d, ed, ek⟩ := Option.bind_eq_some_iff.mp ek
      obtain ⟨F, ρ, RF⟩ := R1
      obtain ⟨w, hw⟩ := dct_there RF es
      obtain ⟨q, kvs, rfl, z2, z3, _⟩ := dct_at RF hw es
      obtain ⟨b, rfl, hb⟩ := key_dptT RF.fh (RF.dat (k := T.length) (by simp) b1 ed) ek
      refine ⟨.ref q, hw, q, _, rfl, DGet.t z2 hb, ?_⟩
      have hv : (valV kvs k).isSome = (valD kds k).isSome := by
        rcases prk_val (k := k) z3 with ⟨h1, h2⟩ | ⟨v, d, h1, h2, _⟩
        · rw [h1, h2]; rfl
        · rw [h1, h2]; rfl
      rw [hv]
      exact (gives (T' := [(.ref b, r)]) RF p).bool
    · cases e1
  cases neg with
  | true => exact key
  | false => exact key
theorem den_tin (i : Nat) {x : Str} (hu : X.A.units + 1 < cLine) (hk : PE X e (tM X.K cl W mk)) (hN : X.N[i]? = some x := by rfl) (hv : Vis X.env.scope x := by first | exact Or.inl rfl | exact Or.inr (Or.inl rfl) | exact Or.inr (Or.inr rfl)) (hd : (x == ("__debug__" : Str)) = false := by decide) (hcd : (x == ("__classdict__" : Str)) = false := by decide) :
    PE X (.Compare e [.In] [.Name x vpos] pos) (tM X.K cl W (mTin false i mk)) := PE.imp (pe_cmp (pc_din hu hk (pe_var hN hv hd hcd)) rfl) fun σ H Q h => tin_of i false σ H Q h
theorem den_tnin (i : Nat) {x : Str} (hu : X.A.units + 1 < cLine) (hk : PE X e (tM X.K cl W mk)) (hN : X.N[i]? = some x := by rfl) (hv : Vis X.env.scope x := by first | exact Or.inl rfl | exact Or.inr (Or.inl rfl) | exact Or.inr (Or.inr rfl)) (hd : (x == ("__debug__" : Str)) = false := by decide) (hcd : (x == ("__classdict__" : Str)) = false := by decide) :
    PE X (.Compare e [.NotIn] [.Name x vpos] pos) (tM X.K cl W (mTin true i mk)) := PE.imp (pe_cmp (pc_dnotin hu hk (pe_var hN hv hd hcd)) rfl) fun σ H Q h => tin_of i true σ H Q h
theorem den_tint (i : Nat) {x : Str} (hu : X.A.units + 1 < cLine) (hk : PE X e (tM X.K cl W mk)) (hN : X.N[i]? = some x := by rfl) (hv : Vis X.env.scope x := by first | exact Or.inl rfl | exact Or.inr (Or.inl rfl) | exact Or.inr (Or.inr rfl)) (hd : (x == ("__debug__" : Str)) = false := by decide) (hcd : (x == ("__classdict__" : Str)) = false := by decide) :
    PT X (.Compare e [.In] [.Name x vpos] pos) (tMT X.K cl W (mBl (mTin false i mk))) := pt_ofC (pc_din hu hk (pe_var hN hv hd hcd)) (fun σ H Q h => tin_of i false σ H Q h) rfl
theorem den_tnint (i : Nat) {x : Str} (hu : X.A.units + 1 < cLine) (hk : PE X e (tM X.K cl W mk)) (hN : X.N[i]? = some x := by rfl) (hv : Vis X.env.scope x := by first | exact Or.inl rfl | exact Or.inr (Or.inl rfl) | exact Or.inr (Or.inr rfl)) (hd : (x == ("__debug__" : Str)) = false := by decide) (hcd : (x == ("__classdict__" : Str)) = false := by decide) :
    PT X (.Compare e [.NotIn] [.Name x vpos] pos) (tMT X.K cl W (mBl (mTin true i mk))) := pt_ofC (pc_dnotin hu hk (pe_var hN hv hd hcd)) (fun σ H Q h => tin_of i true σ H Q h) rfl
end
noncomputable def tputE (i : Nat) (rk rv : Ret) (E : SEnv) : Option SEnv := match (dat E rk).bind keyT, take E rv with
  | some k, some (y, E1) => (match dctOf E1[i]? with
    | some kds => if Ok (kds.length < big) then some (E1.set i (putDct E1[i]? (putD kds k y))) else none
    | none => none)
  | _, _ => none
/-- d[key] = value -/
noncomputable def mTput (i : Nat) (mk mv : M Ret) : M Fl := fun E => (mv E).bind fun rv E1 => if (dctOf E1[i]?).isSome = true then (mk E1).bind fun rk E2 => (match tputE i rk rv E2 with
  | some E3 => .ok .nx E3
  | none => .no) else .no
section
variable {X : Cx} {cl : Cl} {W : WX} {e f v : Expr} {pos vpos spos apos cpos : Pos} {mk mv : M Ret}
theorem den_tput (i : Nat) {x : Str} (hu : X.A.units + 1 < cLine) (hk : PE X e (tM X.K cl W mk)) (hval : PE X v (tM X.K cl W mv)) (hsw : swapsWith v (some (.Subscript (.Name x vpos) e spos)) pos.line X.env = pure false := by rfl)
    (hN : X.N[i]? = some x := by rfl) (hv : Vis X.env.scope x := by first | exact Or.inl rfl | exact Or.inr (Or.inl rfl) | exact Or.inr (Or.inr rfl)) (hd : (x == ("__debug__" : Str)) = false := by decide) (hcd : (x == ("__classdict__" : Str)) = false := by decide) :
    PS X (.Assign [.Subscript (.Name x vpos) e spos] v pos) (tMS X.K cl W (mTput i mk mv)) := PS.imp (ps_dput hu (pe_var hN hv hd hcd) hk hval hsw) fun D σ H h => by
  obtain ⟨C, E, T, R, h⟩ := h
  refine ⟨C, E, T, R, (RunS.bind h).run fun rv E1 h1 v1 H1 R1 b1 => ?_⟩
  split at h1
  case isFalse => exact h1.elim
  rename_i hg
  obtain ⟨kds0, e0⟩ := Option.isSome_iff_exists.mp hg
  obtain ⟨F0, ρ0, RF0⟩ := _root_.id R1
  obtain ⟨w, hw⟩ := dct_there RF0 e0
  obtain ⟨q, _, rfl, _⟩ := dct_at RF0 hw e0
  refine ⟨.ref q, hw, C, E1, _, R1, ((RunS.bind h1).run (σ := σ) fun rk E2 h2 => h2).go fun rk E2 h2 v2 H2 R2 b2 => ?_⟩
  split at h2
  case h_2 => exact h2.elim
  rename_i E3 e3
  unfold tputE at e3
  split at e3
  case h_2 => cases e3
  rename_i k y E4 ek et
  obtain ⟨d, ed, ek⟩ := Option.bind_eq_some_iff.mp ek
  split at e3
  case h_2 => cases e3
  rename_i kds es
  split at e3
  case isFalse => cases e3
  rename_i hl
  cases e3
  obtain ⟨F, ρ, RF⟩ := R2
  obtain ⟨b, rfl, hb⟩ := key_dptT RF.fh (RF.dat (k := T.length + 1) (v := v2) (r := rk) (by simp) b2 ed) ek
  obtain ⟨F', f', RT, hd⟩ := RelF.take (T := T) (T2 := [(.ref b, rk)]) (by simpa using RF) b1 et
  obtain ⟨q', kvs, eq', z2, z3, z4⟩ := dct_at RT.drop hw es
  cases eq'
  refine ⟨q, _, rfl, DPut.t z2 hb (by rw [prk_len z3]; exact big_lt (Nat.le_of_lt hl)), ?_⟩
  obtain ⟨ρ', R'⟩ := z4 _ _ (prk_put hd z3)
  exact h2 σ _ R'.rel
/-- d.get(key, default) -/
def tgetE (s : Option Slot) (d : Option D) (y : D) : Option Rv := match dctOf s, d.bind keyT with
  | some kds, some k => some (.val ((valD kds k).getD y))
  | _, _ => none
def mTget (i : Nat) (mk mv : M Ret) : M Ret := fun E => if (dctOf E[i]?).isSome = true then (mk E).bind fun rk E1 => (mv E1).bind fun rv E2 => (match dat E2 rk, take E2 rv with
  | some d, some (y, E3) => retO (tgetE E3[i]? (some d) y) E3
  | _, _ => .no) else .no
theorem den_tget (i : Nat) {x : Str} (hu : X.A.units + 1 < cLine) (hk : PE X e (tM X.K cl W mk)) (hval : PE X f (tM X.K cl W mv)) (m : M2 X (.Name x vpos) "get" apos e f cpos := by exact ⟨rfl, rfl, rfl, rfl⟩)
    (hN : X.N[i]? = some x := by rfl) (hv : Vis X.env.scope x := by first | exact Or.inl rfl | exact Or.inr (Or.inl rfl) | exact Or.inr (Or.inr rfl)) (hd : (x == ("__debug__" : Str)) = false := by decide) (hcd : (x == ("__classdict__" : Str)) = false := by decide) :
    PE X (.Call (.Attribute (.Name x vpos) "get" apos) [e, f] [] cpos) (tM X.K cl W (mTget i mk mv)) := PE.imp (pe_dget2 hu (pe_var hN hv hd hcd) hk hval m) fun σ H Q h => by
  obtain ⟨C, E, T, R, h⟩ := h
  unfold mTget at h
  split at h
  case isFalse => exact h.elim
  rename_i hg
  obtain ⟨kds0, e0⟩ := Option.isSome_iff_exists.mp hg
  obtain ⟨F0, ρ0, RF0⟩ := _root_.id R
  obtain ⟨w, hw⟩ := dct_there RF0 e0
  obtain ⟨q, kvs0, rfl, g1, _⟩ := dct_at RF0 hw e0
  refine ⟨.ref q, hw, q, rfl, .inr ⟨_, .inl g1⟩, C, E, T, R, (Run.bind h).imp fun rk E1 h1 v1 H1 R1 b1 => ⟨C, E1, _, R1, (Run.bind h1).go fun rv E2 h2 v2 H2 R2 b2 => ?_⟩⟩
  split at h2
  case h_2 => exact h2.elim
  rename_i d y E3 ed et
  obtain ⟨r, e1, p⟩ := retO_run h2
  unfold tgetE at e1
  split at e1
  case h_2 => cases e1
  rename_i kds k es ek
  cases e1
  obtain ⟨F, ρ, RF⟩ := R2
  have ek' : keyT d = some k := ek
  obtain ⟨b, rfl, hb⟩ := key_dptT RF.fh (RF.dat (k := T.length) (v := v1) (r := rk) (by simp) b1 ed) ek'
  obtain ⟨F', f', RT, hdy⟩ := RelF.take (T := T ++ [(.ref b, rk)]) (T2 := []) (by simpa using RF) b2 et
  obtain ⟨q', kvs, eq', z2, z3, _⟩ := dct_at RT hw es
  cases eq'
  refine ⟨_, DGet.t z2 hb, ?_⟩
  have RD : RelF X.K cl C F' ρ E3 (T ++ [(.ref b, rk), (v2, .val y)]) σ H2 := by simpa using RT
  rcases prk_val (k := k) z3 with ⟨a1, a2⟩ | ⟨v, d', a1, a2, a3⟩
  · rw [a1]
    rw [a2] at p
    exact (gives (T' := [(.ref b, rk), (v2, .val y)]) RD p).1 _ hdy
  · rw [a1]
    rw [a2] at p
    exact (gives (T' := [(.ref b, rk), (v2, .val y)]) RD p).1 _ a3
end
@[simp] theorem e_tin (neg : Bool) (i : Nat) (mk : M Ret) (E : SEnv) : mTin neg i mk E = (mk E).bind fun r E1 => retO (tinE neg E1[i]? (dat E1 r)) E1 := rfl
@[simp] theorem e_dctO (kds : List (List Key × D)) : dctOf (some (.own (.dct kds))) = some kds := rfl
@[simp] theorem e_dctL (kds : List (List Key × D)) : dctOf (some (.lnt (.dct kds))) = some kds := rfl
@[simp] theorem e_putDctO (o : MO) (kds : List (List Key × D)) : putDct (some (.own o)) kds = .own (.dct kds) := rfl
@[simp] theorem e_putDctL (o : MO) (kds : List (List Key × D)) : putDct (some (.lnt o)) kds = .lnt (.dct kds) := rfl
@[simp] theorem e_tput (i : Nat) (mk mv : M Ret) (E : SEnv) : mTput i mk mv E = (mv E).bind fun rv E1 => if (dctOf E1[i]?).isSome = true then (mk E1).bind fun rk E2 => (match tputE i rk rv E2 with
  | some E3 => .ok .nx E3
  | none => .no) else .no := rfl
@[simp] theorem e_tget (i : Nat) (mk mv : M Ret) (E : SEnv) : mTget i mk mv E = if (dctOf E[i]?).isSome = true then (mk E).bind fun rk E1 => (mv E1).bind fun rv E2 => (match dat E2 rk, take E2 rv with
  | some d, some (y, E3) => retO (tgetE E3[i]? (some d) y) E3
  | _, _ => .no) else .no := rfl
/-! ### {k: v} with a tuple as the key -/
def tDisp1T (tk tv : TE) : TE := fun σ H Q => ∀ p, H p = none → tk σ (upd H p (.dT [])) fun x H1 => tv σ H1 fun y H2 => H2 p = some (.dT []) ∧ ∃ (b : Addr) (ks : List Key), x = .ref b ∧ H2 b = some (.tup (ks.map kV)) ∧ Q (.ref p) (upd H2 p (.dT [(ks, y)]))
theorem pe_disp1T {X : Cx} {pos : Pos} {k v : Expr} {tk tv : TE} (hu : X.A.units + 1 < cLine) (hk : PE X k tk) (hv : PE X v tv) : PE X (.Dict [some k] [v] pos) (tDisp1T tk tv) := by
  refine ⟨fun pins s σ H Q I q => ?_⟩
  have hn := I.hok.fresh (Nat.le_refl s.heap.objs.size)
  have I1 := I.laid (a := s.heap.objs.size) (o := .dT []) (h' := s.heap.push { cls := .type "dict", data := .dict #[] }) (t' := s.toks) (fun _ _ q => Heap.get?_push_of_some _ q) (Nat.le_refl _) (dt_empty s.heap I.big)
  refine wpAny_Dict_any rfl rfl (by simp) (by simp) (pairTrees_cons_walk (thn (hk.run pins _ σ _ _ I1 (q _ hn)) fun u s1 ⟨x, H1, I2, rx, q1⟩ => thn (hv.run pins s1 σ H1 _ I2 q1) fun w2 s2 ⟨y, H2, I3, ry, e, b, ks, ex, eb, q2⟩ => pairTrees_nil_walk ?_))
  subst ex
  cases (show u = Value.ref b from rx)
  obtain ⟨z, hd, xs, rel, dd⟩ := dt_of I3.hok e
  cases rel
  show wpAny _ _ (forIn [(Value.ref b, w2)] PUnit.unit fun (x : Value × Value) (_ : PUnit) => (do dictSet s.heap.objs.size x.1 x.2; pure (ForInStep.yield PUnit.unit) : Sem (ForInStep PUnit))) _ _ s2
  rw [List.forIn_cons]
  refine wpAny_bind (wpAny_bind (wpAny_dictSet_heap (knd := tupleKind (mixKind X.prog X.w)) (hsz := by simp) (show X.A.units < cLine by omega) (key_of I3.hok eb) dd fun h' dd' hs => wpAny_pure ?_))
  show wpAny _ _ (forIn [] PUnit.unit _) _ _ _
  rw [List.forIn_nil]
  refine wpAny_pure ⟨.ref s.heap.objs.size, _, ?_, rfl, q2⟩
  obtain ⟨qo, es, ep, hq, h2, h3, h4, _, h5⟩ := dd'
  refine d_write I3 (by rw [e]; exact True.intro) hs ⟨qo, hq⟩ ⟨by rw [sizeLine_eq]; simp, hd, _, .cons ⟨rfl, ?_, ry⟩ .nil, qo, es, ep, hq, h2, h3, h4, h5⟩
  show upd H2 s.heap.objs.size _ b = _
  rw [upd_ne (ne_of eb e (fun z => nomatch z))]
  exact eb
theorem RelF.mut_keep {K : PySem.W.Frag} {cl : Cl} {C : Ctx} {F : Hp} {ρ : Own} {E : SEnv} {T : List (V × Ret)} {σ : St} {H : Hp} {p : Addr} {o o' : MO} {ho' : HO} (R : RelF K cl C F ρ E (T ++ [(V.ref p, .own o)]) σ H) (m : MRep K F ho' o') : RelF K cl C F ρ E (T ++ [(V.ref p, .own o')]) σ (upd H p ho') := by
  obtain ⟨p', e1, h1, h2⟩ := R.tm T.length (V.ref p) (.own o) (by simp)
  cases e1
  have R1 := R.mut_last (ho' := ho')
  refine { len := R1.len, f0 := R1.f0, fh := R1.fh, h0 := R1.h0, hf := R1.hf, tb := R1.tb, nt := R1.nt, sl := R1.sl, ln := R1.ln, tm := fun k w r e => ?_ }
  rcases at_snoc e with e | ⟨hk1, e⟩
  · exact R1.tm k w r e
  · cases e
    subst hk1
    exact ⟨p, rfl, ⟨ho', upd_same, m, h1.fn, h1.tag⟩, h2⟩
def mDisp1T (mk mv : M Ret) : M Ret := fun E => (mk E).bind fun rk E1 => (mv E1).bind fun rv E2 => match (dat E2 rk).bind keyT, take E2 rv with
  | some ks, some (y, E3) => .ok (.own (.dct [(ks, y)])) E3
  | _, _ => .no
theorem den_disp1T {X : Cx} {cl : Cl} {W : WX} {k v : Expr} {pos : Pos} {mk mv : M Ret} (hu : X.A.units + 1 < cLine) (hk : PE X k (tM X.K cl W mk)) (hv : PE X v (tM X.K cl W mv)) : PE X (.Dict [some k] [v] pos) (tM X.K cl W (mDisp1T mk mv)) := PE.imp (pe_disp1T hu hk hv) fun σ H Q h p hp => by
  obtain ⟨C, E, T, R, h⟩ := h
  obtain ⟨F, ρ, RF⟩ := R
  have R0 := (RF.push_own (o := .dct []) hp (ho := .dT []) ⟨[], rfl, .nil⟩).rel
  refine ⟨C, E, _, R0, (Run.bind h).go fun rk E1 h1 v1 H1 R1 b1 => ⟨C, E1, T ++ ([(.ref p, .own (.dct []))] ++ [(v1, rk)]), by rw [← List.append_assoc]; exact R1, (Run.bind h1).go fun rv E2 h2 v2 H2 R2 b2 => ?_⟩⟩
  split at h2
  case h_2 => exact h2.elim
  rename_i ks y E3 ek et
  obtain ⟨d, ed, ek⟩ := Option.bind_eq_some_iff.mp ek
  obtain ⟨F, ρ, RF⟩ := R2
  obtain ⟨b, rfl, hb⟩ := key_dptT RF.fh (RF.dat (k := T.length + 1) (v := v1) (r := rk) (by simp) b1 ed) ek
  obtain ⟨F', f', RT, hdy⟩ := RelF.take (T := T ++ [(.ref p, .own (.dct []))] ++ [(.ref b, rk)]) (T2 := []) (by simpa using RF) b2 et
  have RD : RelF X.K cl C F' ρ E3 (T ++ [(.ref p, .own (.dct []))]) σ H2 := RelF.drop (T' := [(.ref b, rk), (v2, .val y)]) (by simpa using RT)
  obtain ⟨q, eq0, ⟨ho, z2, ⟨kvs, rfl, z3⟩, z4, z5⟩, z6⟩ := RD.tm T.length (.ref p) (.own (.dct [])) (by simp)
  cases eq0
  cases z3
  refine ⟨z2, b, ks, rfl, hb, ?_⟩
  exact h2 _ _ (RD.mut_keep (o' := .dct [(ks, y)]) (ho' := .dT [(ks, v2)]) ⟨_, rfl, .cons ⟨rfl, hdy⟩ .nil⟩).rel trivial
@[simp] theorem e_disp1T (mk mv : M Ret) (E : SEnv) : mDisp1T mk mv E = (mk E).bind fun rk E1 => (mv E1).bind fun rv E2 => match (dat E2 rk).bind keyT, take E2 rv with
  | some ks, some (y, E3) => .ok (.own (.dct [(ks, y)])) E3
  | _, _ => .no := rfl
/-! ### a def that changes what it is lent and may give back a list of its own -/
def runDefH (k np n : Nat) (m : M Fl) (ds1 : List D) (o : MO) (ds2 : List D) : Option (D × MO) := if ds1.length = k ∧ ds1.length + ds2.length + 1 = np then (match m (ds1.map Slot.val ++ .lnt o :: (ds2.map Slot.val ++ List.replicate (n - np) .un)) with
  | .ok (.rt r) E => (match take E r with
    | some (d, E2) => endG k E2 d
    | none => none)
  | .ok .nx E => endG k E .none
  | _ => none) else none
theorem spMH_len {K : PySem.W.Frag} {cl : Cl} {k np n : Nat} {m : M Fl} {vs : List V} {H : Hp} {Q : VK} {E : XK} (h : spMG K cl k (runDefH k np n m) vs H Q E) : vs.length = np := by
  obtain ⟨F0, o, ds1, ds2, p, ho, v1, v2, ht, hk, rfl, _, _, _, _, h1, h2, h⟩ := h
  rw [List.length_append, List.length_cons, dps_len h1, dps_len h2]
  by_cases e : ds1.length = k ∧ ds1.length + ds2.length + 1 = np
  · omega
  · have : runDefH k np n m ds1 o ds2 = none := if_neg e
    rw [this] at h
    exact h.elim
section
variable {P : Program} {w : World} {K : PySem.W.Frag} {mg : Str → Option Value} {base : Heap} {cl : Cl}
theorem den_defH (kk : Nat) {x qual : Str} {st : Stmt} {f : Addr} {fd : FuncData} {N ps : List Str} {k : Nat} {m : M Fl} (F : Fun K x qual st f fd) (S : FnScope N ps (defScope st))
    (hbody : ∀ (cdv : Value) (A : Around) (outer : List Env) (s : Shared) (H : Hp) (E : XK), Room k (A.deeper (PyProof.Rows.envOfC qual (defScope st) s.heap.objs.size f cdv)) →
      PSs (cxOf (L2.CX P w) P w K mg base N qual (defScope st) f cdv A outer s H E) (defBody st) (tMS K cl (fun c d _ H => E c d H) m)) : FnOk P w K mg base (L2.CX P w) (k + 1) f fd ps (spMG K cl kk (runDefH kk ps.length N.length m)) := by
  refine F.okX S (fun vs H Q E h => spMH_len h) (fun cdv A outer s H vs Q E hr h => ⟨_, hbody cdv A outer s H E hr, ?_⟩)
  have hlen := spMH_len h
  obtain ⟨F0, o, ds1, ds2, p, ho, v1, v2, ht, hk, rfl, hp, hm, hF, hs, h1, h2, h⟩ := h
  have R := start_relG (cl := cl) (N := N) ht hp hm hF hs h1 h2
  have hlen' : v1.length + v2.length + 1 = ps.length := by rw [← hlen, List.length_append, List.length_cons]; omega
  rw [hlen'] at R
  refine ⟨_, _, [], R.rel, ?_⟩
  unfold runDefH at h
  have l1 := dps_len h1
  have l2 := dps_len h2
  rw [if_pos ⟨by omega, by omega⟩] at h
  cases q : m (ds1.map Slot.val ++ .lnt o :: (ds2.map Slot.val ++ List.replicate (N.length - ps.length) .un)) with
  | no => rw [q] at h; exact h.elim
  | ex x E1 => rw [q] at h; exact h.elim
  | ok fl E1 =>
    rw [q] at h
    have out : ∀ {E1 : SEnv} {F' : Hp} {ρ' : Own} {T' : List (V × Ret)} {σ' : St} {H' : Hp} {o' : MO}, RelF K cl ⟨noT cl.T H, F0, fun i => if i = v1.length then some p else none, fun _ => none⟩ F' ρ' E1 T' σ' H' → E1[kk]? = some (.lnt o') →
        StpX cl.T p H H' ∧ (∃ ho', H' p = some ho' ∧ F' p = none ∧ MRep K F' ho' o') ∧ Same F0 F' ∧ Same F' H' ∧ ∀ q o, H q = some o → F' q = F0 q := fun {E1 F' ρ' T' σ' H' o'} R' e0 => by
      refine ⟨⟨fun q o hq e => R'.h0 q o e fun i z => ?_, R'.tb.1⟩, ?_, R'.f0, R'.fh, noT_hf ht.2 R'.tb.2 R'.hf⟩
      · dsimp only at z
        split at z
        · cases z; exact hq rfl
        · cases z
      · obtain ⟨o2, h1, h2⟩ := R'.ln kk p (if_pos hk.symm)
        obtain ⟨p', e, ⟨ho2, g1, g2, g3, _⟩, _⟩ := R'.sl kk _ _ h2 e0
        cases e
        exact ⟨ho2, g1, g3, g2⟩
    have fin : ∀ {E1 : SEnv} {d : D} {F' : Hp} {ρ' : Own} {T' : List (V × Ret)} {σ' : St} {H' : Hp} {v : V}, RelF K cl ⟨noT cl.T H, F0, fun i => if i = v1.length then some p else none, fun _ => none⟩ F' ρ' E1 T' σ' H' → Dp K F' v d →
        (match endG kk E1 d with
        | some (d, o') => ∀ (v : V) (H' F' : Hp) (ho' : HO), StpX cl.T p H H' → H' p = some ho' → F' p = none → MRep K F' ho' o' → Same F0 F' → Same F' H' → (∀ q o, H q = some o → F' q = F0 q) → Dp K F' v d → Q v H'
        | none => False) → Q v H' := fun {E1 d F' ρ' T' σ' H' v} R' hv h => by
      unfold endG at h
      cases q0 : E1[kk]? with
      | none => rw [q0] at h; exact h.elim
      | some s0 =>
        cases s0 with
        | lnt o' =>
          rw [q0] at h
          obtain ⟨a, ⟨us', b1, b2, b3⟩, c, d, e⟩ := out R' q0
          exact h v H' F' us' a b1 b2 b3 c d e hv
        | un => rw [q0] at h; exact h.elim
        | val _ => rw [q0] at h; exact h.elim
        | own _ => rw [q0] at h; exact h.elim
        | lck _ => rw [q0] at h; exact h.elim
        | exc _ => rw [q0] at h; exact h.elim
        | fn _ => rw [q0] at h; exact h.elim
        | nst _ _ => rw [q0] at h; exact h.elim
    cases fl with
    | bk => exact h.elim
    | ct => exact h.elim
    | nx =>
      intro σ' H' ⟨F', ρ', R'⟩
      exact fin R' .non h
    | rt r =>
      intro v σ' H' ⟨F', ρ', R'⟩ bo
      dsimp only at h
      cases qc : take E1 r with
      | none => rw [qc] at h; exact h.elim
      | some de =>
        obtain ⟨dv, E2⟩ := de
        rw [qc] at h
        obtain ⟨F2, f2, R2, hv⟩ := RelF.take (T := []) (T2 := []) (v := v) (by simpa using R') bo qc
        exact fin R2 hv h
end
end MP

open PySem PySem.Spec L2
namespace MP
/-! ### an own class of refusals with a field: raised, caught, its field read -/
def rowK : Str := Str.ofString "row"
/-- what __init__(self, row): self.row = row does -/
def spI (K : PySem.W.Frag) : Sp := fun vs H Q Ex => ∃ (a C : Addr) (y : V), vs = [.ref a, y] ∧ OexC K C ∧ PySem.W.findIn K (.ref C) "row" = some none ∧ H a = some (exo a C none) ∧
  ∀ dx, H dx = none → dx ≠ a → Q .non (upd (upd H dx (exd dx [("row", y)])) a (exo a C (some dx)))
structure InitOk (K : PySem.W.Frag) (mg : Str → Option Value) (x : Str) (C fI : Addr) (q : Str) (st : Stmt) (fd : FuncData) : Prop where
  g : mg x = some (.ref C)
  ox : OexC K C
  hno : PySem.W.findIn K (.ref C) "row" = some none
  iC : PySem.W.findIn K (.ref C) "__init__" = some (some (.ref fI))
  tI : PySem.W.typeIn K (.ref fI) = some (.type "function")
  F : Fun K "__init__" q st fI fd
  xf : XfC K C
section
variable {P : Program} {w : World} {K : PySem.W.Frag} {mg : Str → Option Value} {base : Heap}
theorem ok_init {q : Str} {st : Stmt} {fI : Addr} {fd : FuncData} {p1 p2 p3 p4 : Pos} (F : Fun K "__init__" q st fI fd) (S : FnScope ["self", "row"] ["self", "row"] (defScope st))
    (hb : defBody st = [.Assign [.Attribute (.Name "self" p1) "row" p2] (.Name "row" p3) p4]) (v1 : Vis (defScope st) "self") (v2 : Vis (defScope st) "row") : FnOk P w K mg base (L2.CX P w) 1 fI fd ["self", "row"] (spI K) := by
  refine F.okX S (fun vs H Q E h => ?_) (fun cdv A outer s H vs Q E hr h => ?_)
  · obtain ⟨a, C, y, rfl, _⟩ := h
    rfl
  · obtain ⟨a, C, y, rfl, T, hno, e, h⟩ := h
    rw [hb]
    refine ⟨_, pss_one (ps_ost (pe_var (i := 0) rfl v1) (pe_var (i := 1) rfl v2)), ?_⟩
    exact ⟨y, rfl, .ref a, rfl, a, C, rfl, T, hno, .inl ⟨e, fun dx n ne => h dx n ne⟩⟩
end
def mRaiseR (c : EC) (m : M Ret) : M Fl := fun E => (m E).bind fun r E1 => match dat E1 r with
  | some (.int i) => .ex ⟨c, some i⟩ E1
  | _ => .no
section
variable {X : Cx} {cl : Cl} {W : WX} {pos pos2 : Pos} {m : M Ret}
theorem den_raiseR (c : EC) {x q : Str} {fI : Addr} {st : Stmt} {fd : FuncData} {e : Expr} {p p1 p2 p3 p4 : Pos} (o : InitOk X.K X.mg x (cl c) fI q st fd) (S : FnScope ["self", "row"] ["self", "row"] (defScope st))
    (hb : defBody st = [.Assign [.Attribute (.Name "self" p1) "row" p2] (.Name "row" p3) p4]) (v1 : Vis (defScope st) "self") (v2 : Vis (defScope st) "row") (hbd : Binds X.K fd ["self", "row"] [])
    (hc : X.calm = true) (tk : Takes X W) (hr : Room 2 X.A) (hg : Gl X x) (he : PE X e (tM X.K cl W m))
    (hs : starEach [e] X.env = (false, eval e X.env) :: starEach [] X.env := by rfl) (hdb : (x == ("__debug__" : Str)) = false := by decide) :
    PS X (.Raise (some (.Call (.Name x p) [e] [] pos)) none pos2) (tMS X.K cl W (mRaiseR c m)) :=
  PS.imp (ps_raise hc tk (pmk_oex o.ox o.iC o.tI (ok_init (P := X.prog) (w := X.w) (mg := X.mg) (base := X.base) o.F S hb v1 v2) hr hbd .nil (passes_call tk fun _ _ _ _ z => z.elim) hg o.g (den_args he den_args0 hs) hdb hs)) fun D σ H h => by
    obtain ⟨C, E, T, R, h⟩ := h
    refine ⟨C, E, T, R, ?_⟩
    unfold mRaiseR at h
    cases q : m E with
    | no => rw [q] at h; exact h.elim
    | ex x2 E1 =>
      rw [q] at h
      show Run _ _ _ _ _ _ _ (((m E).bind fun r E1 => _))
      rw [q]
      intro d H' R' hd
      exact h d σ H' R' hd
    | ok r E1 =>
      rw [q] at h
      show Run _ _ _ _ _ _ _ (((m E).bind fun r E1 => _))
      rw [q]
      intro vs H1 R1 b1
      have h' : RunS X.K cl W C T (PostS X.K cl C T D) (match dat E1 r with
        | some (.int i) => Res.ex ⟨c, some i⟩ E1
        | _ => .no) := h
      split at h'
      case h_2 => exact h'.elim
      rename_i i ed
      obtain ⟨F, ρ, RF⟩ := R1
      obtain ⟨v, rfl, b⟩ : ∃ v, vs = [v] ∧ Bor σ v r := by
        match vs, b1 with
        | [v], b1 => exact ⟨v, rfl, b1.1⟩
      have hv : v = .int i := dpt_int (RF.dat (k := T.length) (by simp) b ed)
      subst hv
      refine ⟨by simp, fun a ha => ⟨a, cl c, .int i, rfl, o.ox, o.hno, upd_same, fun dx n ne => ⟨rfl, dx, [("row", .int i)], upd_same, ?_, ?_, ?_⟩⟩⟩
      · rw [upd_ne ne, upd_same]
      · rw [upd_ne ne] at n; exact n
      · have n1 : H1 dx = none := by rw [upd_ne ne] at n; exact n
        have eH : upd (del (upd (upd (upd H1 a (exo a (cl c) none)) dx (exd dx [("row", .int i)])) a (exo a (cl c) (some dx))) a) dx (.xd [("row", .int i)]) = upd H1 dx (.xd [("row", .int i)]) := by
          funext z
          by_cases h1 : z = dx
          · subst h1; rw [upd_same, upd_same]
          · rw [upd_ne h1, upd_ne h1]
            by_cases h2 : z = a
            · subst h2; rw [del_same, ha]
            · rw [del_ne h2, upd_ne h2, upd_ne h1, upd_ne h2]
        rw [eH]
        have RD : RelF X.K cl C F ρ E1 T σ H1 := RF.drop
        obtain ⟨R2, _⟩ := RD.lay n1 (.xd [("row", .int i)])
        exact h' (some dx) σ _ R2.rel ⟨dx, rfl, upd_same, RD.new_H0 n1⟩
end
/-! ### caught and kept, with its field -/
section
variable {K : PySem.W.Frag} {cl : Cl} {C : Ctx} {F : Hp} {ρ : Own} {E : SEnv} {T : List (V × Ret)} {σ : St} {H : Hp} {p : Addr}
/-- what stands unchanged since it was made may be counted to the data -/
theorem RelF.know (R : RelF K cl C F ρ E T σ H) {ho : HO} (h : H p = some ho) (h0 : C.H0 p = none) (nm : ¬ Mut (some ho)) (ht : p ∉ cl.T.map (·.1)) : RelF K cl C (upd F p ho) ρ E T σ H ∧ Same F (upd F p ho) := by
  have fs : Same F (upd F p ho) := fun b u e => by
    by_cases hb : b = p
    · subst hb
      have := R.fh _ _ e
      rw [h] at this
      cases this
      exact upd_same
    · rw [upd_ne hb]; exact e
  have hq : ∀ g q o, OwnAt K F ρ H g q o → OwnAt K (upd F p ho) ρ H g q o := fun g q o x => by
    refine x.grow fs (fun _ e => e) ?_ rfl
    have n : q ≠ p := fun z => by
      subst z
      obtain ⟨hx, e1, m, _, _⟩ := x
      rw [h] at e1
      cases e1
      exact nm (mrep_mut m)
    rw [upd_ne n]; exact x.fn
  refine ⟨{ len := R.len, f0 := L2.Same.trans R.f0 fs, fh := fun b u e => ?_, h0 := R.h0, tb := ⟨R.tb.1, R.tb.put ht⟩, nt := R.nt, hf := fun q u e => ?_, sl := fun i v s e1 e2 => (R.sl i v s e1 e2).grow fs (hq _), ln := R.ln, tm := fun k w r e => (R.tm k w r e).grow fs (hq _) }, fs⟩
  · by_cases hb : b = p
    · subst hb; rw [upd_same] at e; cases e; exact h
    · rw [upd_ne hb] at e; exact R.fh _ _ e
  · have n : q ≠ p := fun z => by subst z; rw [h0] at e; cases e
    rw [upd_ne n]; exact R.hf q u e
/-- a caught exception is a thing of ours -/
theorem RelF.caught (R : RelF K cl C F ρ E T σ H) {a : Addr} (na : H a = none) {x : Exn} {d : Option Addr} (hd : ExD C.H0 d H x) : ∃ F', RelF K cl C F' ρ E T σ (upd H a (ExcHO (.ref (cl x.c)) d a)) ∧ ExcOk cl F' a x := by
  unfold ExD at hd
  split at hd
  · rename_i hrow
    subst hd
    refine ⟨_, (R.lay na (ExcHO (.ref (cl x.c)) none a)).1, ?_⟩
    unfold ExcOk
    rw [hrow]
    exact upd_same
  · rename_i r hrow
    obtain ⟨dd, rfl, h1, h2⟩ := hd
    obtain ⟨R1, _⟩ := R.know h1 h2 (fun z => z) (noT_no R.tb.1 h1 fun _ z => by cases z)
    obtain ⟨R2, f2⟩ := R1.lay na (ExcHO (.ref (cl x.c)) (some dd) a)
    refine ⟨_, R2, ?_⟩
    unfold ExcOk
    rw [hrow]
    exact ⟨dd, upd_same, f2 _ _ upd_same⟩
end
def mTryR (S : EC → Bool) (i j : Nat) (m : M Fl) : M Fl := fun E => match m E with
  | .ex x E1 => if S x.c = true ∧ isFree E1 i = true ∧ isFree E1 j = true then .ok .nx (((E1.set i (.exc x)).set j (.exc x)).set i .un) else .no
  | r => r
/-- the field of a kept exception -/
def mRow (j : Nat) (S : EC) : M Ret := fun E => match E[j]? with
  | some (.exc x) => (match x.row with
    | some r => if x.c = S then .ok (.val (.int r)) E else .no
    | none => .no)
  | _ => .no
section
variable {X : Cx} {cl : Cl} {W : WX} {pos pos2 : Pos} {m : M Fl}
theorem den_tryR (S : EC → Bool) (i j : Nat) {x n y : Str} {np p1 p2 p3 : Pos} {body : List Stmt} {c : Value} (hs : X.stack = X.env :: X.outer) (hf : X.env.frame = some X.env.locals) (hN : X.N.Nodup) (hc : Names X x c)
    (hS : ∀ e, S e = true → PySem.W.exmOne X.K (.ref (cl e)) c = some true)
    (hb : ∀ (W : WX) (pn : List (Addr × Obj)) (xe : Value → Shared → Prop), Takes (X.tr pn xe) W → PassesOwn (model X.prog X.w) X.A X.env xe → PSs (X.tr pn xe) body (tMS X.K cl W m))
    (hi : X.N[i]? = some n := by rfl) (hj : X.N[j]? = some y := by rfl) (hln : X.env.kindOf n = some .local := by rfl) (hv : Vis X.env.scope n := by first | exact Or.inl rfl | exact Or.inr (Or.inl rfl) | exact Or.inr (Or.inr rfl)) (hd : (n == ("__debug__" : Str)) = false := by decide) (hcd : (n == ("__classdict__" : Str)) = false := by decide)
    (hx : Loc X.env.scope y := by first | exact Or.inl rfl | exact Or.inr rfl) (hsw : swapsWith (.Name n p2) (some (.Name y p1)) p3.line X.env = pure false := by rfl) (hfn : X.fn y = true ∨ X.env.scope.names.lookup y = some .local := by first | exact .inl rfl | exact .inr rfl) :
    PS X (.Try body [.ExceptHandler (some (.Name x np)) (some n) [.Assign [.Name y p1] (.Name n p2) p3] pos2] [] [] pos) (tMS X.K cl W (mTryR S i j m)) :=
  PS.imp (ps_keep (tb := fun W => tMS X.K cl W m) hs hf hN hi hln hc hb fun a pn => pss_one (ps_set (X := X.suite a pn) hN hj hx (pe_var (X := X.suite a pn) hi hv hd hcd) hsw hfn)) fun D σ H h => by
    obtain ⟨C, E, T, R, h⟩ := h
    refine ⟨C, E, T, R, ?_⟩
    unfold mTryR at h
    cases q : m E with
    | no => rw [q] at h; exact h.elim
    | ok fl E1 => rw [q] at h; exact h
    | ex x E1 =>
      rw [q] at h
      dsimp only at h
      split at h
      case isFalse => exact h.elim
      rename_i hh
      obtain ⟨h1, h3, h4⟩ := hh
      intro d σ1 H1 R1 hd1
      refine ⟨hS _ h1, fun a na => ?_⟩
      obtain ⟨F, ρ, RF⟩ := R1
      obtain ⟨si, ei, fi⟩ := isFree_at h3
      have hil : i < σ1.length := by rw [← RF.len]; exact (List.getElem?_eq_some_iff.mp ei).1
      refine ⟨.ref a, List.getElem?_set_self hil, ?_⟩
      refine h _ _ ?_
      obtain ⟨F2, R2, hex⟩ := RF.caught na hd1
      have R3 := R2.put_slot (i := i) (v := .ref a) (s' := .exc x) ei fi (L2.Same.refl _) R2.fh R2.hf R2.tb.2 (fun _ _ _ _ h => .inr h) ⟨a, rfl, hex⟩
      obtain ⟨sj, ej, fj⟩ := isFree_at (isFree_set (i := i) (s := .exc x) h4 rfl)
      have R4 := R3.put_slot (i := j) (v := .ref a) (s' := .exc x) ej fj (L2.Same.refl _) R3.fh R3.hf R3.tb.2 (fun _ _ _ _ h => .inr h) ⟨a, rfl, hex⟩
      obtain ⟨sk, ek, fk⟩ := isFree_at (isFree_set (i := j) (s := .exc x) (isFree_set (i := i) (s := .exc x) h3 rfl) rfl)
      exact (R4.wipe ek fk).rel
theorem den_row (j : Nat) (S : EC) {y : Str} {p : Pos} (T : XfC X.K (cl S)) (hno : PySem.W.findIn X.K (.ref (cl S)) "row" = some none) (hj : X.N[j]? = some y := by rfl) (hv : Vis X.env.scope y := by first | exact Or.inl rfl | exact Or.inr (Or.inl rfl) | exact Or.inr (Or.inr rfl))
    (hd : (y == ("__debug__" : Str)) = false := by decide) (hcd : (y == ("__classdict__" : Str)) = false := by decide) (hb : attributeBase (.Name y p) "row" X.env (eval (.Name y p) X.env) = eval (.Name y p) X.env := by rfl) :
    PE X (.Attribute (.Name y p) "row" pos) (tM X.K cl W (mRow j S)) := by
  refine ⟨fun pins s σ H Q I h => ?_⟩
  obtain ⟨C, E, T0, R, h⟩ := h
  unfold mRow at h
  split at h
  case h_2 => exact h.elim
  rename_i x es
  split at h
  case h_2 => exact h.elim
  rename_i r hrow
  split at h
  case isFalse => exact h.elim
  rename_i hS
  obtain ⟨F, ρ, RF⟩ := _root_.id R
  obtain ⟨w, hw⟩ := slot_there RF es
  obtain ⟨a, rfl, hex⟩ := RF.sl j _ _ hw es
  unfold ExcOk at hex
  rw [hrow] at hex
  obtain ⟨dd, e1, e2⟩ := hex
  have H1 := RF.fh _ _ e1
  have H2 := RF.fh _ _ e2
  refine attr_of hb (thn ((pe_var (pos := p) (i := j) hj hv hd hcd).run pins s σ H (fun v H' => v = .ref a ∧ H' = H) I ⟨.ref a, hw, rfl, rfl⟩) fun u s1 hh => ?_)
  obtain ⟨v, H', I1, rv, ev, eH⟩ := hh
  subst ev
  rw [eH] at I1
  obtain rfl : u = Value.ref a := rv
  obtain ⟨⟨oe, vs, ha, hz, hdt⟩, _, _⟩ := I1.hok a _ H1
  have hx : ObjOk X.prog X.w H s1.heap dd (.xd [(Str.ofString "row", .int r)]) := I1.hok dd _ H2
  obtain ⟨mA, hns, hr⟩ := hx
  obtain ⟨od, ho, hl⟩ := lookIn_ns hns
  obtain ⟨u, hu, ru⟩ := RelO.some_of (v := V.int r) (o := mA "row") (hr "row")
  have J : PySem.W.InstAt s1.heap a oe (cl x.c) (some od) := ⟨ha, hz.1, by unfold PySem.W.notCls; rw [hdt] <;> rfl, by rw [hz.2]; exact ho⟩
  subst hS
  exact HandSPX.exc_get I1.kIn J T.ga T.gg T.exC (PySem.W.findObj_own T.hdC hno rfl (by rw [hl, hu])) (handed_of ru) ⟨.int r, H, I1.tok _, ru, h _ _ (RF.push_val (d := .int r) (Dp.int r)).rel trivial⟩
end
@[simp] theorem e_raiseR (c : EC) (m : M Ret) (E : SEnv) : mRaiseR c m E = (m E).bind fun r E1 => match dat E1 r with
  | some (.int i) => .ex ⟨c, some i⟩ E1
  | _ => .no := rfl
@[simp] theorem e_tryR (S : EC → Bool) (i j : Nat) (m : M Fl) (E : SEnv) : mTryR S i j m E = match m E with
  | .ex x E1 => if S x.c = true ∧ isFree E1 i = true ∧ isFree E1 j = true then .ok .nx (((E1.set i (.exc x)).set j (.exc x)).set i .un) else .no
  | r => r := rfl
@[simp] theorem e_row (j : Nat) (S : EC) (E : SEnv) : mRow j S E = match E[j]? with
  | some (.exc x) => (match x.row with
    | some r => if x.c = S then .ok (.val (.int r)) E else .no
    | none => .no)
  | _ => .no := rfl
/-! ### the class, by what the kernel sees of it -/
def oexIn (K : PySem.W.Frag) (C : Addr) : Bool := match K.lookup C with
  | some ⟨.type "type", _, .cls cd, sl⟩ => (match cd.mro, sl.toList with
    | .ref C' :: bm, [_, _, _, _, some (.builtin n), _] => C' == C && n == "ValueError.__new__" && !cd.hasDel && cd.hasDict && PySem.HandSPX.refsVE bm
    | _, _ => false)
  | _ => false
theorem oex_of {K : PySem.W.Frag} {C : Addr} (q : oexIn K C = true) (sa : PySem.W.findIn K (.ref C) "__setattr__" = some (some (.builtin "object.__setattr__"))) (exC : PySem.W.subIn K (.ref C) (.type "BaseException") = some true)
    (tyC : PySem.W.typeIn K (.ref C) = some (.type "type")) (kC : PySem.W.keepIn K (.ref C) = true) : OexC K C := by
  refine ⟨?_, sa, exC, tyC, kC⟩
  unfold oexIn at q
  split at q
  · rename_i dd cd sl ho
    split at q
    · rename_i C' bm k0 k1 k2 k3 n k5 hm hs
      simp only [Bool.and_eq_true, beq_iff_eq, Bool.not_eq_true'] at q
      obtain ⟨⟨⟨⟨rfl, rfl⟩, hdel⟩, hdict⟩, ht⟩ := q
      obtain ⟨nm, bs, mro, ns, qn, hd, sn, sub, ab, col, del⟩ := cd
      dsimp only at hm hdel hdict
      subst hm hdel hdict
      have hsl : sl = #[k0, k1, k2, k3, some (.builtin "ValueError.__new__"), k5] := by
        obtain ⟨l⟩ := sl
        simp only at hs
        rw [hs]
      subst hsl
      exact ⟨nm, qn, ns, bs, bm, sn, sub, ab, col, dd, k0, k1, k2, k3, k5, ho, ht⟩
    · cases q
  · cases q
end MP

open PySem PySem.Spec L2
/-- as okX, for a def whose refusals come down with no context -/
theorem L2.Fun.okN {P : Program} {w : World} {K : PySem.W.Frag} {mg : Str → Option Value} {base : Heap} {x qual : Str} {st : Stmt} {f : Addr} {fd : FuncData} {N ps : List Str} {k : Nat} {sp : Sp} (F : Fun K x qual st f fd) (S : FnScope N ps (defScope st)) (len : ∀ vs H Q E, sp vs H Q E → vs.length = ps.length)
    (hbody : ∀ (cdv : Value) (A : Around) (outer : List Env) (s : Shared) (H : Hp) (vs : List V) (Q : VK) (E : XK), Room k (A.deeper (PyProof.Rows.envOfC qual (defScope st) s.heap.objs.size f cdv)) → sp vs H Q E →
      ∃ t, PSs (cxOf (L2N.CX P w) P w K mg base N qual (defScope st) f cdv A outer s H E) (defBody st) t ∧ t { nx := fun _ H' => Q .non H', rt := Q } (start N vs) H) : FnOk P w K mg base (L2N.CX P w) (k + 1) f fd ps sp := by
  obtain ⟨oc, od, kV, doc, pm, an, cdv, ct, osl, rfl, lk, hcd⟩ := F.ex
  exact fn_of lk hcd S len fun A outer s H vs Q E hr hsp => hbody cdv A outer s H vs Q E hr hsp
namespace MP
section
variable {X : Cx} {cl : Cl} {W : WX} {e : Expr} {es : List Expr} {x : Str} {p pos : Pos} {ms : M (List Ret)} {g : List D → FR} {k : Nat} {f : Addr} {fd : FuncData} {ps : List Str}
theorem den_callN (F : FnOk X.prog X.w X.K X.mg X.base (L2N.CX X.prog X.w) k f fd ps (spM X.K cl g)) (tk : L2N.Takes X W) (hr : Room k X.A) (hg : Gl X x) (hm : X.mg x = some (.ref f)) (hk : PySem.W.keepIn X.K (.ref f) = true) (hb : Binds X.K fd ps [])
    (ha : PA X (e :: es) (tMA X.K cl W ms)) (hdb : (x == ("__debug__" : Str)) = false := by decide) (he : starEach (e :: es) X.env = (false, eval e X.env) :: starEach es X.env := by rfl) (hpl : (backTo pos (starEach es X.env)).any (·.1) = false := by rfl) :
    PE X (.Call (.Name x p) (e :: es) [] pos) (tM X.K cl W (mCall g ms)) := PE.imp (pe_callS F hr hg hm hk hb (fun σ => L2N.passAt tk σ) ha hdb he hpl) fun σ H Q h => by
  obtain ⟨C, E, T, R, h⟩ := h
  refine ⟨C, E, T, R, (Run.bind h).imp fun rs E1 h1 vs H1 R1 b1 => ?_⟩
  split at h1
  · exact h1.elim
  rename_i ds e1
  obtain ⟨F1, ρ1, RF⟩ := R1
  have hd := RF.dats rfl b1 e1
  split at h1
  · exact h1.elim
  · rename_i x e2
    refine ⟨lendF F1 H1 vs, ds, lend_tb RF.tb, lend_same RF.fh, lend_dps RF.fh (fun _ h => h) hd, ?_⟩
    rw [e2]
    intro d H' hH hx
    exact h1 d H' ((RF.drop.after hH (L2.Same.refl F1) (same_stp RF hH) (fun _ _ _ => rfl)).rel) (hx.weak fun _ z => RF.new_H0 z)
  · rename_i rv e2
    split at h1
    · rename_i hp
      refine ⟨lendF F1 H1 vs, ds, lend_tb RF.tb, lend_same RF.fh, lend_dps RF.fh (fun _ h => h) hd, ?_⟩
      rw [e2]
      intro v H' F3 hH h3 h4 hk3 hv
      obtain ⟨R2, b2⟩ := RF.drop.call_pure hH h3 h4 hk3 hv hp
      exact h1 v H' R2 b2
    · split at h1
      · rename_i ds' E2 e3
        obtain ⟨F2, f2, R2, d2⟩ := RF.takes b1 e3
        have : ds' = ds := takes_dats e3 e1
        subst this
        refine ⟨F2, ds', R2.tb, R2.fh, d2, ?_⟩
        rw [e2]
        intro v H' F3 hH h3 h4 hk3 hv
        obtain ⟨R3, b3⟩ := R2.push_ret hH h3 h4 hk3 hv
        exact h1 v H' R3 b3
      · exact h1.elim
end
section
variable {P : Program} {w : World} {K : PySem.W.Frag} {mg : Str → Option Value} {base : Heap} {cl : Cl}
theorem den_defN {x qual : Str} {st : Stmt} {f : Addr} {fd : FuncData} {N ps : List Str} {k : Nat} {m : M Fl} (F : Fun K x qual st f fd) (S : FnScope N ps (defScope st))
    (hbody : ∀ (cdv : Value) (A : Around) (outer : List Env) (s : Shared) (H : Hp) (E : XK), Room k (A.deeper (PyProof.Rows.envOfC qual (defScope st) s.heap.objs.size f cdv)) →
      PSs (cxOf (L2N.CX P w) P w K mg base N qual (defScope st) f cdv A outer s H E) (defBody st) (tMS K cl (fun c d _ H => E c d H) m)) : FnOk P w K mg base (L2N.CX P w) (k + 1) f fd ps (spM K cl (runDef ps.length N.length m)) := by
  refine F.okN S (fun vs H Q E h => spM_len h) (fun cdv A outer s H vs Q E hr h => ⟨_, hbody cdv A outer s H E hr, ?_⟩)
  have hlen := spM_len h
  obtain ⟨F0, ds, ht, hs, hd, h⟩ := h
  have R := start_rel (cl := cl) (N := N) ht hs hd
  rw [hlen] at R
  refine ⟨_, _, [], R.rel, ?_⟩
  unfold runDef at h
  have hl2 : ds.length = ps.length := (dps_len hd).symm.trans hlen
  rw [if_pos hl2] at h
  cases q : m (ds.map Slot.val ++ List.replicate (N.length - ps.length) .un) with
  | no => rw [q] at h; exact h.elim
  | ex x E1 =>
    rw [q] at h
    intro d σ' H' R' hx
    obtain ⟨F', ρ', R'⟩ := R'
    exact h d H' ⟨fun p o e => R'.h0 p o e (fun _ z => nomatch z), R'.tb.1⟩ (hx.noT R'.tb.1)
  | ok fl E1 =>
    rw [q] at h
    have out : ∀ {F' : Hp} {ρ' : Own} {T' : List (V × Ret)} {σ' : St} {H' : Hp}, RelF K cl ⟨noT cl.T H, F0, fun _ => none, fun _ => none⟩ F' ρ' E1 T' σ' H' → Stp cl.T H H' ∧ Same F0 F' ∧ Same F' H' ∧ ∀ p o, H p = some o → F' p = F0 p := fun R' =>
      ⟨⟨fun p o e => R'.h0 p o e (fun _ z => (nomatch z)), R'.tb.1⟩, R'.f0, R'.fh, noT_hf ht.2 R'.tb.2 R'.hf⟩
    cases fl with
    | bk => exact h.elim
    | ct => exact h.elim
    | nx =>
      intro σ' H' ⟨F', ρ', R'⟩
      obtain ⟨a, b, c, d⟩ := out R'
      exact h .non H' F' a b c d .non
    | rt r =>
      intro v σ' H' ⟨F', ρ', R'⟩ bo
      obtain ⟨a, b, c, d⟩ := out R'
      cases r with
      | val x => exact h v H' F' a b c d (R'.tm 0 v (.val x) rfl)
      | own o =>
        obtain ⟨p, rfl, ⟨ho, h1, h2, h3, _⟩, h4⟩ := R'.tm 0 v (.own o) rfl
        exact h _ H' F' a b c d ⟨p, ho, rfl, noT_none R'.tb.1 h4 h1 (mrep_tbl h2), h1, h2, h3⟩
      | bor i =>
        unfold conv at h
        dsimp only at h
        have bo' : σ'[i]? = some (some v) := bo
        split at h
        · rename_i rv e2
          split at e2
          · rename_i x e3
            cases e2
            obtain ⟨y, z1, z2⟩ := R'.sl i _ _ bo' e3
            cases z1
            exact h v H' F' a b c d z2
          · rename_i o e3
            cases e2
            obtain ⟨p, z1, ⟨ho, h1, h2, h3, _⟩, h4⟩ := R'.sl i _ _ bo' e3
            cases z1
            exact h _ H' F' a b c d ⟨p, ho, rfl, noT_none R'.tb.1 h4 h1 (mrep_tbl h2), h1, h2, h3⟩
          · cases e2
        · rename_i x e2
          split at e2 <;> cases e2
        · exact h.elim
/-- __init__, called while a refusal is handled -/
theorem ok_initH {q : Str} {st : Stmt} {fI : Addr} {fd : FuncData} {p1 p2 p3 p4 : Pos} (F : Fun K "__init__" q st fI fd) (S : FnScope ["self", "row"] ["self", "row"] (defScope st))
    (hb : defBody st = [.Assign [.Attribute (.Name "self" p1) "row" p2] (.Name "row" p3) p4]) (v1 : Vis (defScope st) "self") (v2 : Vis (defScope st) "row") : L2H.FnH P w K mg base (L2.CX P w) 1 fI fd ["self", "row"] (spI K) := by
  obtain ⟨oc, od, kV, doc, pm, an, cdv, ct, osl, rfl, lk, hcd⟩ := F.ex
  refine L2H.fn_ofH lk hcd S (fun vs H Q E h => ?_) (fun A outer s H vs Q E pn hot hr h => ?_)
  · obtain ⟨a, C, y, rfl, _⟩ := h
    rfl
  · obtain ⟨a, C, y, rfl, T, hno, e, h⟩ := h
    rw [hb]
    refine ⟨_, pss_one (ps_ost (pe_var (i := 0) rfl v1) (pe_var (i := 1) rfl v2)), ?_⟩
    exact ⟨y, rfl, .ref a, rfl, a, C, rfl, T, hno, .inl ⟨e, fun dx n ne => h dx n ne⟩⟩
end
section
variable {X : Cx} {cl : Cl} {W : WX} {pos pos2 : Pos} {m : M Fl}
theorem den_raiseN (c : EC) {x t : Str} {j : Nat} {p p2 : Pos} (o : ClsOk X.K X.mg x (cl c)) (hc : X.calm = true) (tk : L2N.Takes X W) (hg : Gl X x) (hdb : (x == ("__debug__" : Str)) = false := by decide) :
    PS X (.Raise (some (.Call (.Name x p) [.Constant (.str t) j p2] [] pos)) none pos2) (tMS X.K cl W (mRaise c)) :=
  PS.imp (L2N.ps_raise hc tk (L2N.pmk_own PySem.F.excBase_ValueError o.ex o.g o.kp (raises_own o.sb o.ty) hg hdb)) fun D σ H h => by
    obtain ⟨C, E, T, R, h⟩ := h
    exact h none σ H R rfl

end
section
variable {X : Cx} {cl : Cl} {W : WX} {pos pos2 : Pos} {m : M Ret}
theorem raiseR_of {x q : Str} {fI : Addr} {st : Stmt} {fd : FuncData} (c : EC) (o : InitOk X.K X.mg x (cl c) fI q st fd) {D : Ends} {σ : St} {H : Hp} (h : tMS X.K cl W (mRaiseR c m) D σ H) : tMkO (cl c) (spI X.K) [] (tMA X.K cl W (mA1 m mA0)) σ H (fun cls d H' => W cls d σ H') := by
    obtain ⟨C, E, T, R, h⟩ := h
    refine ⟨C, E, T, R, ?_⟩
    unfold mRaiseR at h
    cases q : m E with
    | no => rw [q] at h; exact h.elim
    | ex x2 E1 =>
      rw [q] at h
      show Run _ _ _ _ _ _ _ (((m E).bind fun r E1 => _))
      rw [q]
      intro d H' R' hd
      exact h d σ H' R' hd
    | ok r E1 =>
      rw [q] at h
      show Run _ _ _ _ _ _ _ (((m E).bind fun r E1 => _))
      rw [q]
      intro vs H1 R1 b1
      have h' : RunS X.K cl W C T (PostS X.K cl C T D) (match dat E1 r with
        | some (.int i) => Res.ex ⟨c, some i⟩ E1
        | _ => .no) := h
      split at h'
      case h_2 => exact h'.elim
      rename_i i ed
      obtain ⟨F, ρ, RF⟩ := R1
      obtain ⟨v, rfl, b⟩ : ∃ v, vs = [v] ∧ Bor σ v r := by
        match vs, b1 with
        | [v], b1 => exact ⟨v, rfl, b1.1⟩
      have hv : v = .int i := dpt_int (RF.dat (k := T.length) (by simp) b ed)
      subst hv
      refine ⟨by simp, fun a ha => ⟨a, cl c, .int i, rfl, o.ox, o.hno, upd_same, fun dx n ne => ⟨rfl, dx, [("row", .int i)], upd_same, ?_, ?_, ?_⟩⟩⟩
      · rw [upd_ne ne, upd_same]
      · rw [upd_ne ne] at n; exact n
      · have n1 : H1 dx = none := by rw [upd_ne ne] at n; exact n
        have eH : upd (del (upd (upd (upd H1 a (exo a (cl c) none)) dx (exd dx [("row", .int i)])) a (exo a (cl c) (some dx))) a) dx (.xd [("row", .int i)]) = upd H1 dx (.xd [("row", .int i)]) := by
          funext z
          by_cases h1 : z = dx
          · subst h1; rw [upd_same, upd_same]
          · rw [upd_ne h1, upd_ne h1]
            by_cases h2 : z = a
            · subst h2; rw [del_same, ha]
            · rw [del_ne h2, upd_ne h2, upd_ne h1, upd_ne h2]
        rw [eH]
        have RD : RelF X.K cl C F ρ E1 T σ H1 := RF.drop
        obtain ⟨R2, _⟩ := RD.lay n1 (.xd [("row", .int i)])
        exact h' (some dx) σ _ R2.rel ⟨dx, rfl, upd_same, RD.new_H0 n1⟩

theorem den_raiseRH (c : EC) {x q : Str} {fI : Addr} {st : Stmt} {fd : FuncData} {e : Expr} {p p1 p2 p3 p4 : Pos} (o : InitOk X.K X.mg x (cl c) fI q st fd) (S : FnScope ["self", "row"] ["self", "row"] (defScope st))
    (hb : defBody st = [.Assign [.Attribute (.Name "self" p1) "row" p2] (.Name "row" p3) p4]) (v1 : Vis (defScope st) "self") (v2 : Vis (defScope st) "row") (hbd : Binds X.K fd ["self", "row"] [])
    (hc : L2H.HotC X) (tk : Takes X W) (hr : L2H.RoomH 2 X.A) (hg : Gl X x) (he : PE X e (tM X.K cl W m))
    (hs : starEach [e] X.env = (false, eval e X.env) :: starEach [] X.env := by rfl) (hdb : (x == ("__debug__" : Str)) = false := by decide) :
    PS X (.Raise (some (.Call (.Name x p) [e] [] pos)) none pos2) (tMS X.K cl W (mRaiseR c m)) :=
  PS.imp (L2H.ps_raiseH hc tk (L2H.pmk5_oexH o.ox o.iC o.tI (ok_initH (P := X.prog) (w := X.w) (mg := X.mg) (base := X.base) o.F S hb v1 v2) hr hc hbd (passes_call tk fun _ _ _ _ z => z.elim) hg o.g (den_args he den_args0 hs) hdb hs).pmk) fun D σ H h => raiseR_of c o h
end
section
variable {X : Cx} {cl : Cl} {W : WX} {pos pos2 : Pos} {m h : M Fl}
/-- a try whose suite raises: the body's refusals come with no context -/
theorem den_tryX (S : EC → Bool) {x : Str} {np : Pos} {body suite : List Stmt} {b1 : Stmt} {c : Value} (hs : X.stack = X.env :: X.outer) (hf : X.env.frame = some X.env.locals) (hc : Names X x c) (hpa : ∀ hd : Option Value, PySem.PassesOwnAt (model X.prog X.w) (X.A.mark hd) X.A X.env X.xe) (tk : Takes X W)
    (hS : ∀ e, S e = true → PySem.W.exmOne X.K (.ref (cl e)) c = some true)
    (hb : ∀ (W : WX) (pn : List (Addr × Obj)) (xe : Value → Shared → Prop), L2N.Takes (X.tr pn xe) W → PassesOwn (model X.prog X.w) X.A X.env xe → PSs (X.tr pn xe) body (tMS X.K cl W m))
    (hsu : ∀ (a : Addr) (oe : Obj) (pn : List (Addr × Obj)), Takes (L2H.suiteX X a ((a, oe) :: pn)) W → L2H.HotC (L2H.suiteX X a ((a, oe) :: pn)) → PSs (L2H.suiteX X a ((a, oe) :: pn)) (b1 :: suite) (tMS X.K cl W h)) :
    PS X (.Try body [.ExceptHandler (some (.Name x np)) none (b1 :: suite) pos2] [] [] pos) (tMS X.K cl W (mTryO S m h)) :=
  PS.imp (L2H.ps_try_onlyX (tb := fun W => tMS X.K cl W m) (ts := fun _ _ _ => tMS X.K cl W h) (Wout := W) hs hf hc hpa tk (fun W pn xe t1 _ t3 => hb W pn xe t1 t3) fun a oe cls d pn _ _ t1 t2 => hsu a oe pn t1 t2) fun D σ H h => by
    obtain ⟨C, E, T, R, h⟩ := h
    refine ⟨C, E, T, R, ?_⟩
    unfold mTryO at h
    cases q : m E with
    | no => rw [q] at h; exact h.elim
    | ok fl E1 => rw [q] at h; exact h
    | ex x E1 =>
      rw [q] at h
      dsimp only at h
      split at h
      case isFalse => exact h.elim
      rename_i hh
      have h1 := hh
      intro d σ1 H1 R1 hd1
      exact ⟨true, hS _ h1, fun _ a na => ⟨C, E1, T, R1, h⟩, fun z => by cases z⟩
end
end MP

open PySem PySem.Spec L2
namespace MP
/-! ### isinstance of a refusal that is kept, also of one with a field -/
def ExcAtH (H : Hp) (D a : Addr) : Prop := ∃ od, H a = some (ExcHO (.ref D) od a) ∧ ∀ dd, od = some dd → ∃ r : Int, H dd = some (.xd [(Str.ofString "row", .int r)])
theorem ExcAtH.lay {H : Hp} {D a p : Addr} {ho : HO} (h : ExcAtH H D a) (hp : H p = none) : ExcAtH (upd H p ho) D a := by
  obtain ⟨od, e1, e2⟩ := h
  refine ⟨od, by rw [upd_ne (ne_of_none e1 hp)]; exact e1, fun dd e => ?_⟩
  obtain ⟨r, e3⟩ := e2 dd e
  exact ⟨r, by rw [upd_ne (ne_of_none e3 hp)]; exact e3⟩
theorem excAtH_of {cl : Cl} {F H : Hp} {a : Addr} {x : Exn} (h : ExcOk cl F a x) (hs : Same F H) : ExcAtH H (cl x.c) a := by
  unfold ExcOk at h
  split at h
  · exact ⟨none, hs _ _ h, fun _ z => nomatch z⟩
  · obtain ⟨d, h1, h2⟩ := h
    exact ⟨some d, hs _ _ h1, fun dd z => by cases z; exact ⟨_, hs _ _ h2⟩⟩
section
variable {X : Cx}
theorem excR_at {pins : List (Addr × Obj)} {σ : L2.St} {H : Hp} {s : Shared} {a D : Addr} (I : Inv X pins σ H s) (h : ExcAtH H D a) : ∃ oe od, PySem.W.InstAt s.heap a oe D od := by
  obtain ⟨od, h, hd0⟩ := h
  obtain ⟨⟨oe, vs, e1, hz, hd⟩, _⟩ := (show ObjOk X.prog X.w H s.heap a (ExcHO (.ref D) od a) from I.hok a _ h)
  have hn : PySem.W.notCls oe = true := by unfold PySem.W.notCls; rw [hd] <;> rfl
  cases od with
  | none => exact ⟨oe, none, e1, hz.1, hn, by rw [hz.2]; trivial⟩
  | some dd =>
    obtain ⟨r, hr⟩ := hd0 dd rfl
    have hx : ObjOk X.prog X.w H s.heap dd (.xd [(Str.ofString "row", .int r)]) := I.hok dd _ hr
    obtain ⟨mA, hns, _⟩ := hx
    obtain ⟨o, ho, _⟩ := lookIn_ns hns
    exact ⟨oe, some o, e1, hz.1, hn, by rw [hz.2]; exact ho⟩
theorem hcl_of {K : PySem.W.Frag} {D : Addr} (h : PySem.W.hasDictIn K D = true) : (PySem.W.clsIn K D).isSome = true := by
  obtain ⟨cd, hc, _⟩ := PySem.W.any_some h
  rw [hc]; rfl
def rIsY (K : PySem.W.Frag) : List V → Hp → VK → Prop := fun xs H Q => ∃ (a D : Addr) (c : V) (u : Value) (b : Bool), xs = [.ref a, c] ∧ ExcAtH H D a ∧ ExcC K D ∧ ClsV c u ∧ PySem.W.kitOne K (.ref D) u = some b ∧ Q (.bl b) H
def rIsYT (K : PySem.W.Frag) : List V → Hp → VK → Prop := fun xs H Q => ∃ (a D tp : Addr) (cs : List V) (us : List Value) (b : Bool), xs = [.ref a, .ref tp] ∧ ExcAtH H D a ∧ ExcC K D ∧ H tp = some (.tup cs) ∧ Paired ClsV cs us ∧ PySem.W.kitAny K (.ref D) us = some b ∧ Q (.bl b) H
theorem call_isY : CallR X (.builtin "isinstance") (rIsY X.K) := by
  rintro pins s σ H xs us Q I r ⟨a, D, c, u, b, rfl, ha, C, k, e, q⟩
  obtain ⟨u1, u2, rfl, r1, r2⟩ := Vals.two r
  cases r1
  cases k.eq r2
  obtain ⟨oe, od, J⟩ := excR_at I ha
  exact PySem.W.kia_one (PySem.W.kitx_exc (hcl_of C.hd) C.hg C.hk C.hs C.ha C.hn C.ht C.hm) I.kIn J e (fun z => nomatch z) fun tk => ⟨.bl b, H, I.tok tk, rfl, q⟩
theorem call_isYT : CallR X (.builtin "isinstance") (rIsYT X.K) := by
  rintro pins s σ H xs us Q I r ⟨a, D, tp, cs, ws, b, rfl, ha, C, hT, k, e, q⟩
  obtain ⟨u1, u2, rfl, r1, r2⟩ := Vals.two r
  cases r1
  cases r2
  obtain ⟨oe, od, J⟩ := excR_at I ha
  obtain ⟨_, its, rv, o, h1, h2, n, h3⟩ := (show ObjOk X.prog X.w H s.heap tp (.tup cs) from I.hok tp _ hT)
  cases ClsV.all k rv
  obtain ⟨oc, od2, dt, sl⟩ := o
  simp only at h2 h3
  subst h2 h3
  exact PySem.W.kia_tup (PySem.W.kitx_exc (hcl_of C.hd) C.hg C.hk C.hs C.ha C.hn C.ht C.hm) I.kIn J h1 e (fun z => nomatch z) fun tk => ⟨.bl b, H, I.tok tk, rfl, q⟩
end
def mIsR (t : EC → Option Bool) (j : Nat) : M Ret := fun E => match E[j]? with
  | some (.exc x) => (match t x.c with
    | some b => .ok (.val (.bool b)) E
    | none => .no)
  | some (.val .none) => .ok (.val (.bool false)) E
  | _ => .no
section
variable {X : Cx} {cl : Cl} {W : WX} {pos : Pos}
theorem isR_run {K : PySem.W.Frag} {t : EC → Option Bool} {j : Nat} {σ : L2.St} {H : Hp} {Q : VK} (h : tM K cl W (mIsR t j) σ H Q) :
    (∃ a x b, σ[j]? = some (some (.ref a)) ∧ ExcAtH H (cl x) a ∧ t x = some b ∧ Q (.bl b) H ∧ ∀ p ho, H p = none → Q (.bl b) (upd H p ho)) ∨ (σ[j]? = some (some .non) ∧ Q (.bl false) H ∧ ∀ p ho, H p = none → Q (.bl false) (upd H p ho)) := by
  obtain ⟨C, E, T, ⟨F, ρ, R⟩, h⟩ := h
  unfold mIsR at h
  split at h
  · rename_i x e
    split at h
    case h_2 => exact h.elim
    rename_i b eb
    obtain ⟨w, hw⟩ := slot_there R e
    obtain ⟨a, rfl, hx⟩ := R.sl j _ _ hw e
    refine .inl ⟨a, x.c, b, hw, excAtH_of hx R.fh, eb, h (.bl b) H (R.push_val (.bl b)).rel trivial, fun p ho hp => ?_⟩
    obtain ⟨R2, _⟩ := R.lay hp ho
    exact h (.bl b) _ (R2.push_val (.bl b)).rel trivial
  · rename_i e
    obtain ⟨w, hw⟩ := slot_there R e
    obtain ⟨y, rfl, hx⟩ := R.sl j _ _ hw e
    cases hx
    refine .inr ⟨hw, h (.bl false) H (R.push_val (.bl false)).rel trivial, fun p ho hp => ?_⟩
    obtain ⟨R2, _⟩ := R.lay hp ho
    exact h (.bl false) _ (R2.push_val (.bl false)).rel trivial
  · exact h.elim
theorem den_isR1 (t : EC → Option Bool) (j : Nat) {n : Str} {e2 : Expr} {p p1 : Pos} {v : V} {u : Value} (hg : Gl X "isinstance") (hm : X.mg "isinstance" = none) (h2 : PE X e2 (tC v)) (k : ClsV v u)
    (ht : ∀ c b, t c = some b → ExcC X.K (cl c) ∧ PySem.W.kitOne X.K (.ref (cl c)) u = some b) (hz : PySem.W.kitOne X.K (.type "NoneType") u = some false)
    (hN : X.N[j]? = some n := by rfl) (hv : Vis X.env.scope n := by first | exact Or.inl rfl | exact Or.inr (Or.inl rfl) | exact Or.inr (Or.inr rfl)) (hd : (n == ("__debug__" : Str)) = false := by decide) (hcd : (n == ("__classdict__" : Str)) = false := by decide)
    (hs1 : starEach [.Name n p1, e2] X.env = (false, eval (.Name n p1) X.env) :: starEach [e2] X.env := by rfl) (hs2 : starEach [e2] X.env = (false, eval e2 X.env) :: starEach [] X.env := by rfl) (hpl : (backTo pos (starEach [e2] X.env)).any (·.1) = false := by rfl) :
    PE X (.Call (.Name "isinstance" p) [.Name n p1, e2] [] pos) (tM X.K cl W (mIsR t j)) :=
  PE.imp (pe_callB (call_isY.or call_isi) hg hm PyProof.Rows.boot_isinstance (pa_cons (pe_var hN hv hd hcd) (pa_cons h2 pa_nil hs2) hs1) (by decide) (by decide) hs1 hpl) fun σ H Q h => by
    rcases isR_run h with ⟨a, x, b, e1, e2, e3, q, _⟩ | ⟨e1, q, _⟩
    · obtain ⟨g1, g2⟩ := ht x b e3
      exact ⟨.ref a, e1, .inl ⟨a, cl x, v, u, b, rfl, e2, g1, k, g2, q⟩⟩
    · exact ⟨.non, e1, .inr ⟨.non, v, .type "NoneType", u, false, rfl, k, .base .non, hz, q⟩⟩
theorem den_isRT (t : EC → Option Bool) (j : Nat) {n : Str} {es : List Expr} {p p1 p2 : Pos} {k1 : Nat} {vs : List V} {us : List Value} (hg : Gl X "isinstance") (hm : X.mg "isinstance" = none) (h2 : PA X es (tCC vs)) (k : Paired ClsV vs us) (hlen : vs.length ≤ 100)
    (ht : ∀ c b, t c = some b → ExcC X.K (cl c) ∧ PySem.W.kitAny X.K (.ref (cl c)) us = some b) (hz : PySem.W.kitAny X.K (.type "NoneType") us = some false)
    (hN : X.N[j]? = some n := by rfl) (hv : Vis X.env.scope n := by first | exact Or.inl rfl | exact Or.inr (Or.inl rfl) | exact Or.inr (Or.inr rfl)) (hd : (n == ("__debug__" : Str)) = false := by decide) (hcd : (n == ("__classdict__" : Str)) = false := by decide)
    (hs1 : starEach [.Name n p1, .Tuple es k1 p2] X.env = (false, eval (.Name n p1) X.env) :: starEach [.Tuple es k1 p2] X.env := by rfl) (hs2 : starEach [.Tuple es k1 p2] X.env = (false, eval (.Tuple es k1 p2) X.env) :: starEach [] X.env := by rfl) (hpl : (backTo pos (starEach [.Tuple es k1 p2] X.env)).any (·.1) = false := by rfl) :
    PE X (.Call (.Name "isinstance" p) [.Name n p1, .Tuple es k1 p2] [] pos) (tM X.K cl W (mIsR t j)) :=
  PE.imp (pe_callB (call_isYT.or call_isiT) hg hm PyProof.Rows.boot_isinstance (pa_cons (pe_var hN hv hd hcd) (pa_cons (pe_tup h2) pa_nil hs2) hs1) (by decide) (by decide) hs1 hpl) fun σ H Q h => by
    have hsz : vs.length ≤ sizeLine := by rw [sizeLine_eq]; omega
    rcases isR_run h with ⟨a, x, b, e1, e2, e3, _, q⟩ | ⟨e1, _, q⟩
    · obtain ⟨g1, g2⟩ := ht x b e3
      refine ⟨.ref a, e1, hsz, fun tp na => .inl ⟨a, cl x, tp, vs, us, b, rfl, e2.lay na, g1, upd_same, k, g2, q tp _ na⟩⟩
    · exact ⟨.non, e1, hsz, fun tp na => .inr ⟨.non, tp, vs, .type "NoneType", us, false, rfl, upd_same, k, .base .non, hz, q tp _ na⟩⟩
end
@[simp] theorem e_isR (t : EC → Option Bool) (j : Nat) (E : SEnv) : mIsR t j E = match E[j]? with
  | some (.exc x) => (match t x.c with
    | some b => .ok (.val (.bool b)) E
    | none => .no)
  | some (.val .none) => .ok (.val (.bool false)) E
  | _ => .no := rfl
end MP
namespace MP
/-! ### a text many times over -/
def repS (x : Str) (k : Nat) : Str := ⟨(List.replicate k x.cps).foldl (· ++ ·) #[]⟩
theorem foldl_push {α : Type} (xs : Array α) : ∀ (k : Nat) (a : Array α), (List.replicate k xs).foldl (· ++ ·) a = a ++ (List.replicate k xs.toList).flatten.toArray
  | 0, a => by simp
  | k + 1, a => by
    rw [List.replicate_succ, List.replicate_succ, List.foldl_cons, foldl_push xs k, List.flatten_cons]
    apply Array.ext'
    simp
theorem repS_list (x : Str) (k : Nat) : (repS x k).cps.toList = (List.replicate k x.cps.toList).flatten := by
  unfold repS
  simp only
  rw [foldl_push]
  simp
theorem repS_len (x : Str) (k : Nat) : (repS x k).length = k * x.length := by
  have := congrArg List.length (repS_list x k)
  show (repS x k).cps.size = k * x.cps.size
  simpa using this
def rRepS : R2 := fun x y H Q => ∃ (s : Str) (k : Int), x = .str s ∧ y = .int k ∧ 2 ≤ k ∧ k ≤ 1000 ∧ 1 ≤ s.length ∧ s.length ≤ 1000 ∧ Q (.str (repS s k.toNat)) H
theorem op_repS {X : Cx} : OpR X (binaryOp .Mult) rRepS := by
  intro pins s σ H x y v u Q I rx ry h
  obtain ⟨z, k, rfl, rfl, h1, h2, h3, h4, q⟩ := h
  obtain ⟨t, rfl⟩ := rx
  obtain ⟨t', rfl⟩ := ry
  have c0 : (decide (k < -(2 ^ 63)) || decide (k ≥ 2 ^ 63)) = false := by
    rw [decide_eq_false (by omega), decide_eq_false (by omega)] <;> rfl
  refine P.mul_str c0 (fun _ _ => ?_) (fun _ _ => ?_) ?_
  · have e1 : (z.length : Int) * k ≤ 1000 * 1000 := Int.mul_le_mul (by omega) h2 (by omega) (by omega)
    have := Int.le_ediv_of_mul_le (c := k) (show 0 < k by omega) (show (z.length : Int) * k ≤ 2 ^ 63 - 1 by omega)
    omega
  · unfold Builtin.Str.tooLong
    rw [sizeLine_eq]
    have a1 : z.length * k.toNat ≤ 1000 * 1000 := Nat.mul_le_mul h4 (by omega)
    exact decide_eq_false (by omega)
  · rw [if_neg (by omega), if_neg (by
      rw [Bool.or_eq_true, beq_iff_eq, beq_iff_eq]
      omega)]
    have e2 := repS_len z k.toNat
    have e3 : z.length * k.toNat ≤ 1000 * 1000 := Nat.mul_le_mul h4 (by omega)
    exact ⟨by rw [sizeLine_eq]; show (repS z k.toNat).length ≤ _; rw [e2, Nat.mul_comm]; omega, .str (repS z k.toNat), H, I.tok _, ⟨_, rfl⟩, q⟩
noncomputable def repSF : D → D → Option Rv
  | .str x, .int k => if Ok (2 ≤ k ∧ k ≤ 1000 ∧ 1 ≤ x.length ∧ x.length ≤ 1000) then some (.val (.str (repS x k.toNat))) else none
  | _, _ => none
theorem repS_ok {K : PySem.W.Frag} : Op2 K rRepS repSF := fun F H x y a b rv Q hs ha hb e g => by
  unfold repSF at e
  split at e
  · split at e
    · rename_i hl
      cases e
      exact ⟨_, _, dpt_str ha, dpt_int hb, hl.1, hl.2.1, hl.2.2.1, hl.2.2.2, g.str⟩
    · cases e
  · cases e
theorem den_repS {X : Cx} {cl : Cl} {W : WX} {a b : Expr} {pos : Pos} {ma mb : M Ret} (ha : PE X a (tM X.K cl W ma)) (hb : PE X b (tM X.K cl W mb)) : PE X (.BinOp a .Mult b pos) (tM X.K cl W (m2 repSF ma mb)) := den_bin op_repS repS_ok ha hb
theorem f_repS {x : Str} {k : Nat} (h1 : 2 ≤ k) (h2 : k ≤ 1000) (h3 : 1 ≤ x.length) (h4 : x.length ≤ 1000) : repSF (.str x) (.int (k : Int)) = some (.val (.str (repS x k))) := by
  unfold repSF
  simp only
  rw [ok_pos ⟨by omega, by omega, h3, h4⟩, Int.toNat_natCast]
end MP

open PySem PySem.Spec L2
namespace MP
open PyProof.Rows LamX
/-! ### a lambda with one parameter that has captured one name -/
structure LamS1 (sc scope : Scope) (par : Str) : Prop where
  kind : scope.kind = .function
  co : scope.isCoroutine = false
  gen : scope.isGenerator = false
  own : ∀ y ∈ scope.names, y.2 ≠ .cell ∧ (y.2 = .local → y.1 = par)
  lc : scope.names.lookup par = some .local
  free : ∀ y ∈ scope.names, y.2 = .free → sc.names.lookup y.1 = some .cell ∨ sc.names.lookup y.1 = some .free
def lamS1B (sc scope : Scope) (par : Str) : Bool :=
  decide (scope.kind = .function) && !scope.isCoroutine && !scope.isGenerator && decide (scope.names.lookup par = some .local) && scope.names.all fun y => (!decide (y.2 = .local) || decide (y.1 = par)) && !decide (y.2 = .cell) && (!decide (y.2 = .free) || decide (sc.names.lookup y.1 = some .cell) || decide (sc.names.lookup y.1 = some .free))
theorem lamS1_by {sc scope : Scope} {par : Str} (h : lamS1B sc scope par = true) : LamS1 sc scope par := by
  unfold lamS1B at h
  simp only [Bool.and_eq_true, Bool.or_eq_true, Bool.not_eq_true', decide_eq_true_eq, decide_eq_false_iff_not, List.all_eq_true] at h
  obtain ⟨⟨⟨⟨h1, h2⟩, h3⟩, h5⟩, h4⟩ := h
  refine ⟨h1, h2, h3, fun y hy => ⟨(h4 y hy).1.2, fun e => ?_⟩, h5, fun y hy e => ?_⟩
  · rcases (h4 y hy).1.1 with z | z
    · exact absurd e z
    · exact z
  · rcases (h4 y hy).2 with (z | z) | z
    · exact absurd e z
    · exact .inl z
    · exact .inr z
theorem LamS1.has {X : Cx} {scope : Scope} {par : Str} (L : LamS1 X.env.scope scope par) (ok : X.Ok) : ∀ y ∈ scope.names, y.2 = .free → ∃ c, X.env.cells.lookup y.1 = some c := fun y hy e => by
  rcases L.free y hy e with k | k
  · exact ok.has _ (.inl k)
  · exact ok.has _ (.inr k)
/-- the context of the lambda's body: the captured name and the parameter -/
def lamCxN (X : Cx) (N : List Str) (A : Around) (outer : List Env) (s : Shared) (H : Hp) (E : XK) (scope : Scope) (f c' : Addr) : Cx where
  prog := X.prog
  w := X.w
  K := X.K
  mg := X.mg
  base := X.base
  A := A.deeper (lamEnv X scope s.heap.objs.size f c')
  N := N
  s_0 := s
  H_0 := H
  env := lamEnv X scope s.heap.objs.size f c'
  outer := outer
  stack := lamEnv X scope s.heap.objs.size f c' :: outer
  ex := []
  fn := fun _ => false
  calm := true
  pn := []
  xe := fun e s' => wpAny (model X.prog X.w) (A.deeper (lamEnv X scope s.heap.objs.size f c')) (leaving (lamEnv X scope s.heap.objs.size f c') e) (fun _ s'' => L2.CX X.prog X.w outer H s E e s'') (fun e' s'' => L2.CX X.prog X.w outer H s E e' s'') s'
section
variable {X : Cx} {pins : List (Addr × Obj)} {σ : L2.St} {H HZ : Hp} {s s1 : Shared}
theorem lam_start1 {A : Around} {outer : List Env} {E : XK} {scope : Scope} {f c' : Addr} {h₁ : Heap} {tk : Nat} {par cap : Str} {ic : Nat} {w0 : Option V} {v : V} {u : Value} (I : Inv X pins σ H s) (L : LamS1 X.env.scope scope par) (hne : cap ≠ par) (hN : X.N[ic]? = some cap) (hσ : σ[ic]? = some w0) (rv : RelV v u)
    (e0 : Env0 X.prog X.w X.K X.mg X.base A outer s1 HZ) (hd : A.handled = none)
    (un : Un (frs X.stack) [] H HZ s.heap s1.heap) (hns : h₁.Ns s1.heap.objs.size fun y => ([(par, u)] : List (Str × Value)).reverse.lookup y) (kp : ∀ b o, s1.heap.get? b = some o → h₁.get? b = some o) :
    Inv (lamCxN X [cap, par] A outer s1 HZ E scope f c') [] [w0, some v] HZ { s1 with heap := h₁, toks := tk } := by
  have hfree := L.has I.ok
  have cm : ∀ {y c}, (cloFrom X.env.cells scope.names []).lookup y = some c → X.env.cells.lookup y = some c := fun {y c} e => by
    rcases cloFrom_mem (PySem.mem_of_lookup e) with hm | ⟨h1, h2⟩
    · cases hm
    · obtain ⟨c1, hc⟩ := hfree _ h1 rfl
      have hc : X.env.cells.lookup y = some c1 := hc
      have e2 : c = c1 := by
        rw [h2, hc] <;> rfl
      rw [e2]
      exact hc
  have look : ∀ {y}, scope.names.lookup y = some .free → ∃ c, (cloFrom X.env.cells scope.names []).lookup y = some c := fun {y} hl => by
    have hy : (y, NameKind.free) ∈ scope.names := PySem.mem_of_lookup hl
    exact mem_lookup (cloFrom_has (cells := X.env.cells) (acc := []) hy)
  have cellK : ∀ {c : Addr} {v : Option Value}, H c = none → s.heap.IsCell c v → h₁.IsCell c v := fun {c v} n ⟨o, ho, hd⟩ => by
    obtain ⟨sl, q⟩ := un.any ho n (by simp)
    exact ⟨_, kp _ _ q, hd⟩
  have noA : ∀ b : Addr, b ∉ (lamCxN X [cap, par] A outer s1 HZ E scope f c').ex := fun b z => absurd (show b ∈ ([] : List Addr) from z) (by simp)
  refine ⟨⟨e0.mod, L.kind, rfl, rfl, Nat.le_refl _, fun y z c e1 e2 => I.ok.inj y z c (cm e1) (cm e2), fun y hy => ?_, fun y c z _ => ?_, fun _ => hd, Around.frames_deeper e0.frames, .inr ⟨rfl, rfl⟩, fun b z => absurd z (noA b), e0.bs, e0.bsz, fun b _ _ => noA b,
      fun b z => absurd z (noA b), e0.funs, e0.frf⟩,
    rfl, e0.bare, Un.kept kp, ⟨_, hns, fun i y v' e1 e2 e3 => ?_⟩, fun y c e => ?_, e0.hok.fresh (Nat.le_refl _), fun y c e => ?_, fun q hq => absurd (show q ∈ ([] : List (Addr × Obj)) ++ [] from hq) (by simp), e0.hok.kept kp, rfl⟩
  · have hy : scope.names.lookup y = some .cell ∨ scope.names.lookup y = some .free := hy
    rcases hy with hy | hy
    · exact absurd rfl (L.own _ (PySem.mem_of_lookup hy)).1
    · exact look hy
  · have z : false = true := z
    cases z
  · have e3 : Vis scope y := e3
    cases i with
    | zero =>
      have ey : cap = y := Option.some.inj e1
      subst ey
      have ew : w0 = some v' := Option.some.inj e2
      subst ew
      rcases e3 with k | k | k
      · exact absurd ((L.own _ (PySem.mem_of_lookup k)).2 rfl) hne
      · exact absurd rfl (L.own _ (PySem.mem_of_lookup k)).1
      · obtain ⟨m, hn, hl⟩ := I.loc
        have hvis : Vis X.env.scope cap := (L.free _ (PySem.mem_of_lookup k) rfl).elim (fun k => .inr (.inl k)) (fun k => .inr (.inr k))
        obtain ⟨w', r, q⟩ := hl ic cap v' hN hσ hvis
        obtain ⟨c2, h2⟩ := look k
        refine ⟨w', r, .inr ⟨.inr k, c2, h2, ?_⟩⟩
        have c1 := cm h2
        rcases q with ⟨k', _⟩ | ⟨_, c3, e', z⟩
        · have k' : X.env.scope.names.lookup cap = some .local := k'
          rcases L.free _ (PySem.mem_of_lookup k) rfl with k2 | k2 <;> rw [show X.env.scope.names.lookup cap = _ from k2] at k' <;> cases k'
        · rw [c1] at e'
          cases e'
          exact cellK (I.freeC cap _ c1) z
    | succ i =>
      cases i with
      | succ i => exact absurd e1 (by simp [lamCxN])
      | zero =>
        have ey : par = y := Option.some.inj e1
        subst ey
        have ew : some v = some v' := Option.some.inj e2
        cases ew
        exact ⟨u, rv, .inl ⟨L.lc, by simp⟩⟩
  · obtain ⟨w', z⟩ := I.cell y c (cm e)
    exact ⟨w', cellK (I.freeC y c (cm e)) z⟩
  · obtain ⟨v, o, ho, hd⟩ := I.cell y c (cm e)
    exact un.free c o ho (I.freeC y c (cm e)) (by simp)
/-- x(e), in the def that got the lambda -/
theorem pe_act1 {CXg : CXT} {Eg : XK} {Ng : List Str} {qg : Str} {sg : Scope} {g f c' : Addr} {cdg pm ctv : Value} {params : Arguments} {body : Expr} {scope : Scope} {k i ic : Nat} {a par cap : Str} {pn : List (Addr × Obj)} {xe : Value → Shared → Prop} {W : WX} {E : XK} {tb ta : TE} {e : Expr} {p1 p2 : Pos} {w0 : Option V}
    (I : Inv X pins σ H s) (L : LamS1 X.env.scope scope par) (hne : cap ≠ par) (hNc : X.N[ic]? = some cap) (hσ : σ[ic]? = some w0)
    (hbind : ∀ u, bindArgs (PySem.W.kla_fn "<lambda>" (X.env.qual ++ "<lambda>") params body scope (cloFrom X.env.cells scope.names []) pm (.ref c') ctv) ⟨[u], []⟩ = pure [(par, u)])
    (tk : Takes ((cxOf CXg X.prog X.w X.K X.mg X.base Ng qg sg g cdg X.A X.stack s H Eg).tr pn xe) W) (hW : ∀ cls d σ' H', E cls d H' → W cls d σ' H') (hr : Room (k + 1) (X.A.deeper (envOfC qg sg s.heap.objs.size g cdg)))
    (hbody : ∀ (A : Around) (outer : List Env) (s : Shared) (H : Hp), Room k (A.deeper (lamEnv X scope s.heap.objs.size f c')) → PE (lamCxN X [cap, par] A outer s H E scope f c') body tb)
    (he : PE ((cxOf CXg X.prog X.w X.K X.mg X.base Ng qg sg g cdg X.A X.stack s H Eg).tr pn xe) e ta)
    (hN : Ng[i]? = some a) (hv : Vis sg a) (hd : (a == ("__debug__" : Str)) = false := by decide) (hcd : (a == ("__classdict__" : Str)) = false := by decide)
    (hs : starEach [e] ((cxOf CXg X.prog X.w X.K X.mg X.base Ng qg sg g cdg X.A X.stack s H Eg).tr pn xe).env = [(false, eval e ((cxOf CXg X.prog X.w X.K X.mg X.base Ng qg sg g cdg X.A X.stack s H Eg).tr pn xe).env)] := by rfl) :
    PE ((cxOf CXg X.prog X.w X.K X.mg X.base Ng qg sg g cdg X.A X.stack s H Eg).tr pn xe) (.Call (.Name a p1) [e] [] p2)
      (fun σZ HZ Q => σZ[i]? = some (some (.ref f)) ∧ HZ f = some (FunO f (PySem.W.kla_obj "<lambda>" (X.env.qual ++ "<lambda>") params body scope (cloFrom X.env.cells scope.names []) pm c' ctv)) ∧ ta σZ HZ fun v H2 => H2 f = some (FunO f (PySem.W.kla_obj "<lambda>" (X.env.qual ++ "<lambda>") params body scope (cloFrom X.env.cells scope.names []) pm c' ctv)) ∧ H2 c' = some (CodeO c' (X.env.qual ++ "<lambda>")) ∧ tb [w0, some v] H2 Q) := by
  refine ⟨fun pinsZ sZ σZ HZ Q IZ h => ?_⟩
  obtain ⟨hs0, hf0, ht⟩ := h
  refine wpAny_Call_Name_kw (thn ((pe_var (pos := p1) (i := i) hN hv hd hcd).run pinsZ sZ σZ HZ (fun v H1 => v = .ref f ∧ H1 = HZ) IZ ⟨.ref f, hs0, rfl, rfl⟩) fun u s0 ⟨v, H1, I0, r1, q1⟩ => ?_)
  obtain ⟨ev, eH⟩ := q1
  subst ev
  rw [eH] at I0
  obtain rfl : u = Value.ref f := r1
  have of0 : s0.heap.get? f = some (PySem.W.kla_obj "<lambda>" (X.env.qual ++ "<lambda>") params body scope (cloFrom X.env.cells scope.names []) pm c' ctv) := (I0.hok f _ hf0).1
  refine PySem.W.callWith_F ⟨_, _, _, _, of0⟩ (thn ((pa_cons he pa_nil hs).run p2 pinsZ s0 σZ HZ (fun vs H2 => match vs with
    | [v] => H2 f = some (FunO f (PySem.W.kla_obj "<lambda>" (X.env.qual ++ "<lambda>") params body scope (cloFrom X.env.cells scope.names []) pm c' ctv)) ∧ H2 c' = some (CodeO c' (X.env.qual ++ "<lambda>")) ∧ tb [w0, some v] H2 Q
    | _ => False) I0 ht) fun us s1 ⟨vs, H2, I1, r2, q2⟩ => ?_) hs rfl
  match vs, q2 with
  | [v], q2 =>
  obtain ⟨hf, hc, ht⟩ := q2
  obtain ⟨u, rfl, ru⟩ := vals1 r2
  have of1 : s1.heap.get? f = some (PySem.W.kla_obj "<lambda>" (X.env.qual ++ "<lambda>") params body scope (cloFrom X.env.cells scope.names []) pm c' ctv) := (I1.hok f _ hf).1
  refine ⟨⟨_, _, _, _, of1⟩, ?_⟩
  have un : Un (frs X.stack) [] H H2 s.heap s1.heap := I1.base
  obtain ⟨⟨oc, vs, t, hoc, hdc, hvc⟩, _, _⟩ := I1.hok c' _ hc
  have rc : codeAny (model X.prog X.w) (X.A.deeper (envOfC qg sg s.heap.objs.size g cdg)) (.call (.ref f) ⟨[u], []⟩) (CR (L2.CX X.prog X.w) (envOfC qg sg s.heap.objs.size g cdg :: X.stack) X.prog X.w H2 s1 Q E) s1 := by
    refine PySem.W.kla_callFunE hr.depth of1 rfl L.co L.gen rfl ⟨c', oc, vs, t, rfl, hoc, hdc, hvc⟩ ?_
    rw [hbind]
    refine wpAny_pure (wpAny_newFunctionEnv (fun y hy => (L.own y hy).1) (fun y hy => by
      obtain rfl := List.mem_singleton.mp hy
      exact L.lc) (fun h₁ hns hsb => ⟨I1.nolimit.fresh _ hsb, ?_⟩) L.kind)
    show codeAny _ _ (.expr body (lamEnv X scope s1.heap.objs.size f c')) _ _
    have kp : ∀ b o, s1.heap.get? b = some o → h₁.get? b = some o := fun b o e => hsb.extBut b o (Nat.ne_of_lt (Heap.lt_size e)) (Heap.get?_push_of_some _ e)
    have J : Inv (lamCxN X [cap, par] (X.A.deeper (envOfC qg sg s.heap.objs.size g cdg)) (envOfC qg sg s.heap.objs.size g cdg :: X.stack) s1 H2 E scope f c') [] [w0, some v] H2 { s1 with heap := h₁, toks := s1.toks + ([(par, u)] : List (Str × Value)).length } :=
      lam_start1 I L hne hNc hσ ru I1.env0 hr.hd un hns kp
    refine PySem.W.kla_codeExpr (wpAny_mono ((hbody _ _ s1 H2 (hr.deeper _)).run [] _ _ H2 Q J ht) (fun v s' hq => ?_) fun e s' hq => hq)
    obtain ⟨w', H', J', rv, q⟩ := hq
    exact ⟨w', H', J'.os, J'.bare, J'.base, J'.hok, rv, q⟩
  have hx : Passes (L2.CX X.prog X.w) ((cxOf CXg X.prog X.w X.K X.mg X.base Ng qg sg g cdg X.A X.stack s H Eg).tr pn xe) E := passes_call tk hW
  refine wpAny_call (codeAny_mono rc fun r s' hq => ?_)
  cases r with
  | error e => exact hx pinsZ σZ H2 s1 e s' I1 hq
  | ok fl =>
    cases fl with
    | ret u => exact I1.after hq
    | next => exact False.elim hq
    | brk => exact False.elim hq
    | cont => exact False.elim hq
end
end MP

open PySem PySem.Spec L2
namespace MP
open PyProof.Rows LamX
theorem funO_ok {P : Program} {w : World} {H : Hp} {h : Heap} {f : Addr} {o : Obj} (e : h.get? f = some o) : ObjOk P w H h f (FunO f o) := ⟨e, ⟨o, e⟩, fun _ _ e1 st => st _ e1⟩
section
variable {X : Cx} {pins : List (Addr × Obj)} {σ : L2.St} {H : Hp} {s : Shared}
/-- the lambda is made, and its function object known from now on -/
theorem lam_make3 {T : List (Addr × Str)} {c P : Addr} {params : Arguments} {body : Expr} {scope : Scope} {pos : Pos} {E : Value → Shared → Prop} {Q : Value → Shared → Prop} (I : Inv X pins σ H s) (TB : TabB X.base X.mg c P) (hcode : X.env.code = .ref c)
    (hm : (P, X.env.qual ++ "<lambda>") ∈ T) (hu : ∀ p ∈ T, p.1 = P → p.2 = X.env.qual ++ "<lambda>") (hT : Tabs T H) (hdef : defaultsOf params X.env = ([], [])) (hfree : ∀ y ∈ scope.names, y.2 = .free → ∃ c, X.env.cells.lookup y.1 = some c)
    (h : ∀ (f c' : Addr) (pm ctv : Value) (H1 : Hp) (s' : Shared), Inv X pins σ H1 s' → (∀ b o, b ≠ P → H b = some o → H1 b = some o) → Tabs T H1 → H f = none →
      H1 f = some (FunO f (PySem.W.kla_obj "<lambda>" (X.env.qual ++ "<lambda>") params body scope (cloFrom X.env.cells scope.names []) pm c' ctv)) → H1 c' = some (CodeO c' (X.env.qual ++ "<lambda>")) → Q (.ref f) s') :
    wpAny (model X.prog X.w) X.A (eval (.Lambda params body scope pos) X.env) Q E s := by
  obtain ⟨ps, hP, ht, ha⟩ := hT _ hm
  refine PySem.W.kla_eval hdef ?_
  have bP : s.heap.BuiltinsAt X.mg P := TB.bm.keeps I.bk
  have hP' : s.heap.get? P = some { cls := .none, data := .fields ps } := I.hok P _ hP
  cases hc : codeAmong pos ps.toList with
  | none =>
    refine PySem.W.kla_makeFunction (mg := X.mg) (c := c) (P := P) (ps := ps) (closure_ok hfree) I.ok.glob (I.mod.glob.keeps I.bk) hcode (TB.code.keeps I.bk) hP' ht hc TB.gP bP fun c' ctv h' tk hx hge hlt hrec htb => ?_
    obtain ⟨c2, oc, vs, t, e2, hoc, hd, hv⟩ := hrec
    cases e2
    have hsz : s.heap.objs.size ≤ h'.objs.size := Nat.le_trans hge (Nat.le_of_lt hlt)
    have nC : H c' = none := I.hok.fresh hge
    have I0 := inv_table (t' := tk) (more := #[rawInt pos.line, rawInt pos.col, .ref c']) (h' := h') I hP hx htb hge ⟨oc, vs, t, hoc, hd, hv⟩
    have n1 : h'.objs.size ≠ c' := Nat.ne_of_gt hlt
    have n2 : h'.objs.size ≠ P := Nat.ne_of_gt (Nat.lt_of_lt_of_le (Heap.lt_size hP') hsz)
    have nF : H h'.objs.size = none := I.hok.fresh hsz
    have I1 := I0.laid (a := h'.objs.size) (t' := tk) (o := FunO h'.objs.size (PySem.W.kla_obj "<lambda>" (X.env.qual ++ "<lambda>") params body scope (cloFrom X.env.cells scope.names []) ((X.mg "__name__").getD .none) c' ctv)) (h' := h'.push (PySem.W.kla_obj "<lambda>" (X.env.qual ++ "<lambda>") params body scope (cloFrom X.env.cells scope.names []) ((X.mg "__name__").getD .none) c' ctv))
      (fun b u e => Heap.get?_push_of_some _ e) (Nat.le_refl _) (funO_ok (Heap.get?_push_size _ rfl))
    have hE : ∀ b o, b ≠ P → H b = some o → upd (upd (upd H P (.tbl (ps ++ #[rawInt pos.line, rawInt pos.col, .ref c']))) c' (CodeO c' (X.env.qual ++ "<lambda>"))) h'.objs.size (FunO h'.objs.size (PySem.W.kla_obj "<lambda>" (X.env.qual ++ "<lambda>") params body scope (cloFrom X.env.cells scope.names []) ((X.mg "__name__").getD .none) c' ctv)) b = some o := fun b o nb e => by
      rw [upd_ne (ne_of_none e nF), upd_ne (ne_of_none e nC), upd_ne nb]
      exact e
    have eL : (ps ++ #[rawInt pos.line, rawInt pos.col, .ref c']).toList = ps.toList ++ [rawInt pos.line, rawInt pos.col, .ref c'] := by simp
    have atC : upd (upd (upd H P (.tbl (ps ++ #[rawInt pos.line, rawInt pos.col, .ref c']))) c' (CodeO c' (X.env.qual ++ "<lambda>"))) h'.objs.size (FunO h'.objs.size (PySem.W.kla_obj "<lambda>" (X.env.qual ++ "<lambda>") params body scope (cloFrom X.env.cells scope.names []) ((X.mg "__name__").getD .none) c' ctv)) c' = some (CodeO c' (X.env.qual ++ "<lambda>")) := by
      rw [upd_ne (Ne.symm n1), upd_same]
    have cne : ∀ {b c0 : Addr} {q : Str}, H c0 = some (CodeO c0 q) → c0 ≠ P := fun {b c0 q} e z => by
      rw [z, hP] at e
      exact codeO_ne _ (Option.some.inj e).symm
    refine h h'.objs.size c' ((X.mg "__name__").getD .none) ctv _ _ I1 hE (fun p hp => ?_) nF upd_same atC
    by_cases hb : p.1 = P
    · rw [hu p hp hb, hb]
      refine ⟨_, by rw [upd_ne (Ne.symm n2), upd_ne (ne_of_none hP nC), upd_same], by rw [eL]; exact PySem.TriplesOk_snoc _ _ _ _ ht, fun p' cv hcv => ?_⟩
      rw [eL] at hcv
      rcases among_app _ ht hcv with z | z
      · obtain ⟨c0, e1, e2⟩ := ha p' cv z
        exact ⟨c0, e1, hE _ _ (cne (b := 0) e2) e2⟩
      · exact ⟨c', z, atC⟩
    · obtain ⟨ps', a1, a2, a3⟩ := hT p hp
      refine ⟨ps', hE _ _ hb a1, a2, fun p' cv hcv => ?_⟩
      obtain ⟨c0, e1, e2⟩ := a3 p' cv hcv
      exact ⟨c0, e1, hE _ _ (cne (b := 0) e2) e2⟩
  | some cv =>
    obtain ⟨c', e, hco⟩ := ha pos cv hc
    subst e
    refine PySem.W.kla_makeFunctionHit (mg := X.mg) (c := c) (P := P) (ps := ps) (closure_ok hfree) I.ok.glob (I.mod.glob.keeps I.bk) hcode (TB.code.keeps I.bk) hP' ht hc bP fun ctv h' tk hx hsz => ?_
    have I0 : Inv X pins σ H { s with heap := h', toks := tk } := I.kept fun b o e => hx b o e
    have nF : H h'.objs.size = none := I.hok.fresh hsz
    have I1 := I0.laid (a := h'.objs.size) (t' := tk) (o := FunO h'.objs.size (PySem.W.kla_obj "<lambda>" (X.env.qual ++ "<lambda>") params body scope (cloFrom X.env.cells scope.names []) ((X.mg "__name__").getD .none) c' ctv)) (h' := h'.push (PySem.W.kla_obj "<lambda>" (X.env.qual ++ "<lambda>") params body scope (cloFrom X.env.cells scope.names []) ((X.mg "__name__").getD .none) c' ctv))
      (fun b u e => Heap.get?_push_of_some _ e) (Nat.le_refl _) (funO_ok (Heap.get?_push_size _ rfl))
    have hE : ∀ b o, H b = some o → upd H h'.objs.size (FunO h'.objs.size (PySem.W.kla_obj "<lambda>" (X.env.qual ++ "<lambda>") params body scope (cloFrom X.env.cells scope.names []) ((X.mg "__name__").getD .none) c' ctv)) b = some o := fun b o e => by
      rw [upd_ne (ne_of_none e nF)]
      exact e
    exact h h'.objs.size c' ((X.mg "__name__").getD .none) ctv _ _ I1 (fun b o _ e => hE b o e) (hT.ext hE) nF upd_same (hE _ _ hco)
end
/-- the reading of lambda par: body -/
def tLam1 (T : List (Addr × Str)) (P : Addr) (X : Cx) (params : Arguments) (body : Expr) (scope : Scope) : TE := fun σ H Q => Tabs T H ∧ ∀ (f c' : Addr) (pm ctv : Value) (H1 : Hp), (∀ b o, b ≠ P → H b = some o → H1 b = some o) → Tabs T H1 → H f = none →
  H1 f = some (FunO f (PySem.W.kla_obj "<lambda>" (X.env.qual ++ "<lambda>") params body scope (cloFrom X.env.cells scope.names []) pm c' ctv)) → H1 c' = some (CodeO c' (X.env.qual ++ "<lambda>")) → Q (.ref f) H1
theorem pe_lam1 {X : Cx} {T : List (Addr × Str)} {c P : Addr} {params : Arguments} {body : Expr} {scope : Scope} {pos : Pos} {par : Str} (TB : TabB X.base X.mg c P) (hcode : X.env.code = .ref c) (L : LamS1 X.env.scope scope par)
    (hm : (P, X.env.qual ++ "<lambda>") ∈ T) (hu : ∀ p ∈ T, p.1 = P → p.2 = X.env.qual ++ "<lambda>") (hdef : defaultsOf params X.env = ([], [])) : PE X (.Lambda params body scope pos) (tLam1 T P X params body scope) :=
  ⟨fun pins s σ H Q I h => lam_make3 I TB hcode hm hu h.1 hdef (L.has I.ok) fun f c' pm ctv H1 s' I1 h1 h2 h3 h4 h5 => ⟨.ref f, H1, I1, rfl, h.2 f c' pm ctv H1 h1 h2 h3 h4 h5⟩⟩
/-! ### f(e, ..), its promise told of the very state -/
def tCallV (X : Cx) (t : TA) (ps : List Str) (k : Nat) (Ng : List Str) (x : Str) (sg : Scope) (g : Addr) (cdv : Value) (bg : List Stmt) : TE := fun σ H Q => t σ H fun vs H1 => vs.length = ps.length ∧ ∀ (pins : List (Addr × Obj)) (s' : Shared), Inv X pins σ H1 s' → Room k (X.A.deeper (envOfC x sg s'.heap.objs.size g cdv)) →
  ∃ tb, PSs (cxOf (L2.CX X.prog X.w) X.prog X.w X.K X.mg X.base Ng x sg g cdv X.A X.stack s' H1 (fun _ _ _ => False)) bg tb ∧ tb { nx := fun _ H' => Q .non H', rt := Q } (L2.start Ng vs) H1
theorem pe_callV {X : Cx} {W : WX} {x : Str} {g : Addr} {st : Stmt} {fd : FuncData} {Ng ps : List Str} {k : Nat} {t : TA} {e : Expr} {es : List Expr} {p pos : Pos} (F : Fun X.K x x st g fd) (S : FnScope Ng ps (defScope st)) (tk : Takes X W) (hr : Room (k + 1) X.A) (hg : Gl X x) (hm : X.mg x = some (.ref g)) (hb : Binds X.K fd ps [])
    (ha : PA X (e :: es) t) (hdb : (x == ("__debug__" : Str)) = false := by decide) (he : starEach (e :: es) X.env = (false, eval e X.env) :: starEach es X.env := by rfl) (hpl : (backTo pos (starEach es X.env)).any (·.1) = false := by rfl) :
    ∃ cdv, PE X (.Call (.Name x p) (e :: es) [] pos) (tCallV X t ps k Ng x (defScope st) g cdv (defBody st)) := by
  obtain ⟨oc, od, kV, doc, pm, an, cdv, ct, osl, rfl, lk, hcd⟩ := F.ex
  refine ⟨cdv, ⟨fun pins s σ H Q I h => ?_⟩⟩
  refine wpAny_Call_Name_kw (ld_glob I hg hm ?_ hdb)
  refine PySem.W.callWith_K (h₀ := X.base) I.ok.mod.kin F.kp (thn (ha.run pos pins s σ H _ I h) fun us s1 ⟨vs, H1, I1, r, q⟩ => ⟨I1.kIn, ?_⟩) he hpl
  obtain ⟨hl, q⟩ := q
  have rc : codeAny (model X.prog X.w) X.A (.call (.ref g) ⟨us, []⟩) (CR (L2.CX X.prog X.w) X.stack X.prog X.w H1 s1 Q (fun _ _ _ => False)) s1 := by
    have hb' := hb s1 us I1.kIn (by rw [List.append_nil, ← r.length]; exact hl)
    rw [List.append_nil] at hb'
    exact run_ofS (N := Ng) (ps := ps) (us := us) (vs := vs) lk hcd S hr I1.env0 hb' r hl fun hr' => q pins s1 I1 hr'
  have hx : Passes (L2.CX X.prog X.w) X (fun _ _ _ => False) := passes_call tk (fun _ _ _ _ z => z.elim)
  refine wpAny_call (codeAny_mono rc fun r s' hq => ?_)
  cases r with
  | error e => exact hx pins σ H1 s1 e s' I1 hq
  | ok fl =>
    cases fl with
    | ret u => exact I1.after hq
    | next => exact False.elim hq
    | brk => exact False.elim hq
    | cont => exact False.elim hq
end MP

open PySem PySem.Spec L2
namespace MP
open PyProof.Rows LamX
/-! ### the closure that a def was handed is called -/
abbrev Phi := List D → D → Option (D × List D)
def mAct (φ : Phi) (i : Nat) (ma : M Ret) : M Ret := fun E => match (E[i]? : Option MP.Slot) with
  | some (.fn _) => (ma E).bind fun r E1 => (match dat E1 r, (E1[i]? : Option MP.Slot) with
    | some d, some (.fn st) => (match φ st d with
      | some (d', st') => .ok (.val d') (E1.set i (.fn st'))
      | none => .no)
    | _, _ => .no)
  | _ => .no
/-- x -> t[x] -/
noncomputable def phiIx : Phi := fun st d => match ixF (.tuple st) d with
  | some (.val d') => some (d', st)
  | _ => none
/-- x -> l.pop(0) -/
noncomputable def phiPop : Phi := fun st _ => match popAtF st [.int 0] with
  | some (ds, d) => some (d, ds)
  | none => none
/-- the call of the closure, whatever it does -/
def ActR (Z : Cx) (cl : Cl) (W : WX) (a : Str) (φ : Phi) (i : Nat) : Prop := ∀ (e : Expr) (ma : M Ret) (p1 p2 : Pos), PE Z e (tM Z.K cl W ma) → starEach [e] Z.env = [(false, eval e Z.env)] → PE Z (.Call (.Name a p1) [e] [] p2) (tM Z.K cl W (mAct φ i ma))
/-- what is known of a closure in its slot -/
theorem fn_slot {K : PySem.W.Frag} {cl : Cl} {C : Ctx} {F : Hp} {ρ : Own} {E : SEnv} {T : List (V × Ret)} {σ : L2.St} {H : Hp} {i : Nat} {st : List D} {k : Cap} (R : RelF K cl C F ρ E T σ H) (hk : cl.cap = some k) (e : E[i]? = some (.fn st)) :
    σ[i]? = some (some (.ref k.f)) ∧ H k.f = some (FunO k.f k.o) ∧ H k.c = some (LamX.CodeO k.c k.q) ∧ (match k.k with
    | .inl x => Dp K F x (.tuple st)
    | .inr p => OwnAt K F ρ H (.s i) p (.lst st) ∧ C.H0 p = none) := by
  obtain ⟨w, hw⟩ := slot_there R e
  obtain ⟨k', e1, e2, e3, e4, e5, h⟩ := R.sl i w _ hw e
  rw [hk] at e1
  cases e1
  subst e2
  exact ⟨hw, R.h0 _ _ e3 fun j => (e5 j).1, R.h0 _ _ e4 fun j => (e5 j).2, h⟩
theorem act_first {K : PySem.W.Frag} {cl : Cl} {W : WX} {σ : L2.St} {H : Hp} {Q : VK} {φ : Phi} {i : Nat} {ma : M Ret} {k : Cap} (hk : cl.cap = some k) (h : tM K cl W (mAct φ i ma) σ H Q) :
    σ[i]? = some (some (.ref k.f)) ∧ H k.f = some (FunO k.f k.o) ∧ tM K cl W ma σ H fun v H2 => ∃ (C : Ctx) (E : SEnv) (T : List (V × Ret)) (F : Hp) (ρ : Own) (r : Ret) (d : D) (st : List D) (d' : D) (st' : List D), RelF K cl C F ρ E (T ++ [(v, r)]) σ H2 ∧ Bor σ v r ∧ dat E r = some d ∧ E[i]? = some (.fn st) ∧ φ st d = some (d', st') ∧
      H2 k.f = some (FunO k.f k.o) ∧ H2 k.c = some (LamX.CodeO k.c k.q) ∧ ∀ v' H', Rel K cl C (E.set i (.fn st')) (T ++ [(v', .val d')]) σ H' → Q v' H' := by
  obtain ⟨C, E, T, R, h⟩ := h
  unfold mAct at h
  split at h
  case h_2 => exact h.elim
  rename_i st0 e0
  obtain ⟨F, ρ, RF⟩ := _root_.id R
  obtain ⟨g1, g2, _, _⟩ := fn_slot RF hk e0
  refine ⟨g1, g2, C, E, T, R, (Run.bind h).imp fun r E1 h1 v H2 R1 b1 => ?_⟩
  split at h1
  case h_2 => exact h1.elim
  rename_i d st ed es
  split at h1
  case h_2 => exact h1.elim
  rename_i d' st' ep
  obtain ⟨F1, ρ1, RF1⟩ := R1
  obtain ⟨_, g3, g4, _⟩ := fn_slot RF1 hk es
  exact ⟨C, E1, T, F1, ρ1, r, d, st, d', st', RF1, b1, ed, es, ep, g3, g4, fun v' H' R' => h1 v' H' R' trivial⟩
theorem set_same {E : SEnv} {i : Nat} {s : MP.Slot} (e : E[i]? = some s) : E.set i s = E := by
  apply List.ext_getElem?
  intro j
  by_cases h : j = i
  · subst h
    have hl := (List.getElem?_eq_some_iff.mp e).1
    rw [List.getElem?_set_self hl, e]
  · rw [List.getElem?_set_ne (Ne.symm h)]
theorem RelF.mut_fn {K : PySem.W.Frag} {cl : Cl} {C : Ctx} {F : Hp} {ρ : Own} {E : SEnv} {T : List (V × Ret)} {σ : L2.St} {H : Hp} {i : Nat} {st st' : List D} {k : Cap} {p : Addr} {ho' : HO} (R : RelF K cl C F ρ E T σ H) (hk : cl.cap = some k) (hp : k.k = .inr p) (e : E[i]? = some (.fn st)) (m : MRep K F ho' (.lst st')) :
    RelF K cl C F ρ (E.set i (.fn st')) T σ (upd H p ho') := by
  obtain ⟨w, hw⟩ := slot_there R e
  obtain ⟨k', c1, c2, c3, c4, c5, hx⟩ := R.sl i w _ hw e
  rw [hk] at c1
  cases c1
  rw [hp] at hx
  obtain ⟨h1, h2⟩ := hx
  have hq : ∀ g, g ≠ Tag.s i → ∀ q o, OwnAt K F ρ H g q o → OwnAt K F ρ (upd H p ho') g q o := fun g n q o h' =>
    h'.grow (L2.Same.refl F) (fun u e => by rw [upd_ne (h'.apart h1 n)]; exact e) h'.fn rfl
  refine { len := by simpa using R.len, f0 := R.f0, fh := fun q u e' => ?_, h0 := fun q u e' l => ?_, hf := R.hf, tb := ⟨let ⟨_, e0, m0, _⟩ := h1; tabs_mut R.tb.1 e0 m0, R.tb.2⟩, nt := R.nt, sl := fun j w' s e1 e2 => ?_, ln := fun j q e' => ?_, tm := fun k w r e' => (R.tm k w r e').grow (L2.Same.refl F) (hq _ fun z => by cases z) }
  · rw [upd_ne (ne_of_none e' h1.fn)]; exact R.fh q u e'
  · rw [upd_ne (ne_of_none e' h2)]; exact R.h0 q u e' l
  · rcases set_cases e2 with ⟨rfl, rfl, _⟩ | ⟨n, e2⟩
    · rw [hw] at e1; cases e1
      refine ⟨k, hk, c2, c3, c4, c5, ?_⟩
      rw [hp]
      exact ⟨⟨ho', upd_same, m, h1.fn, h1.tag⟩, h2⟩
    · exact (R.sl j w' s e1 e2).grow (L2.Same.refl F) (hq _ fun z => by cases z; exact n rfl)
  · obtain ⟨o2, g1, g2⟩ := R.ln j q e'
    have n : j ≠ i := fun z => by subst z; rw [e] at g1; cases g1
    exact ⟨o2, by rw [List.getElem?_set_ne (Ne.symm n)]; exact g1, g2⟩
section
variable {X : Cx} {pins : List (Addr × Obj)} {σ : L2.St} {H : Hp} {s : Shared} {CXg : CXT} {Eg : XK} {Ng : List Str} {qg : Str} {sg : Scope} {g f c' : Addr} {cdg pm ctv : Value} {params : Arguments} {scope : Scope} {k i ic : Nat} {a par cap : Str} {W : WX} {cl : Cl} {q1 q2 q3 : Pos} {w0 : Option V} {kc : Cap}
/-- lambda par: cap[par] -/
theorem act_ix {x : V} (I : Inv X pins σ H s) (L : LamS1 X.env.scope scope par) (hne : cap ≠ par) (hNc : X.N[ic]? = some cap) (hσ : σ[ic]? = some (some x)) (hk : cl.cap = some kc) (hkk : kc.k = .inl x) (hkq : kc.q = X.env.qual ++ "<lambda>") (hkf : kc.f = f) (hkc : kc.c = c')
    (hko : kc.o = PySem.W.kla_obj "<lambda>" (X.env.qual ++ "<lambda>") params (.Subscript (.Name cap q1) (.Name par q2) q3) scope (cloFrom X.env.cells scope.names []) pm c' ctv)
    (hfree : scope.names.lookup cap = some .free)
    (hbind : ∀ u, bindArgs (PySem.W.kla_fn "<lambda>" (X.env.qual ++ "<lambda>") params (.Subscript (.Name cap q1) (.Name par q2) q3) scope (cloFrom X.env.cells scope.names []) pm (.ref c') ctv) ⟨[u], []⟩ = pure [(par, u)])
    (tk : Takes (cxOf CXg X.prog X.w X.K X.mg X.base Ng qg sg g cdg X.A X.stack s H Eg) W) (hr : Room (k + 1) (X.A.deeper (envOfC qg sg s.heap.objs.size g cdg)))
    (hN : Ng[i]? = some a) (hv : Vis sg a) (hd : (a == ("__debug__" : Str)) = false := by decide) (hcd : (a == ("__classdict__" : Str)) = false := by decide)
    (hd1 : (cap == ("__debug__" : Str)) = false := by decide) (hcd1 : (cap == ("__classdict__" : Str)) = false := by decide) (hd2 : (par == ("__debug__" : Str)) = false := by decide) (hcd2 : (par == ("__classdict__" : Str)) = false := by decide) :
    ActR (cxOf CXg X.prog X.w X.K X.mg X.base Ng qg sg g cdg X.A X.stack s H Eg) cl W a phiIx i := fun e ma p1 p2 he hs => by
  subst hkf hkc
  refine PE.imp (pe_act1 (CXg := CXg) (Eg := Eg) (pn := (cxOf CXg X.prog X.w X.K X.mg X.base Ng qg sg g cdg X.A X.stack s H Eg).pn) (xe := (cxOf CXg X.prog X.w X.K X.mg X.base Ng qg sg g cdg X.A X.stack s H Eg).xe) (E := fun _ _ _ => False) (W := W) (tb := tOp (rIx X.K) (tVar 0) (tVar 1)) I L hne hNc hσ hbind tk (fun _ _ _ _ z => z.elim) hr
    (fun A outer s H _ => pe_ix (X := lamCxN X [cap, par] A outer s H (fun _ _ _ => False) scope kc.f kc.c) (r := rIx X.K) (ix_seq (X := lamCxN X [cap, par] A outer s H (fun _ _ _ => False) scope kc.f kc.c)) (pe_var (i := 0) rfl (.inr (.inr hfree)) hd1 hcd1) (pe_var (i := 1) rfl (.inl L.lc) hd2 hcd2) (by exact fun _ _ => rfl)) he hN hv hd hcd hs) fun σZ HZ Q h => ?_
  obtain ⟨g1, g2, h⟩ := act_first hk h
  rw [hko] at g2
  refine ⟨g1, g2, ?_⟩
  obtain ⟨C, E, T, R, h⟩ := h
  refine ⟨C, E, T, R, h.imp fun r0 E0 h v H2 R0 b0 => ?_⟩
  obtain ⟨C1, E1, T1, F1, ρ1, r, d, st, d', st', RF, b1, ed, es, ep, g3, g4, fin⟩ := h v H2 R0 b0
  rw [hko] at g3
  rw [hkq] at g4
  refine ⟨g3, g4, x, rfl, v, rfl, ?_⟩
  obtain ⟨_, _, _, hx⟩ := fn_slot RF hk es
  rw [hkk] at hx
  unfold phiIx at ep
  split at ep
  case h_2 => cases ep
  rename_i dv e3
  cases ep
  refine ix_ok F1 H2 x v (.tuple st) d (.val d') Q RF.fh (dpt_of hx RF.fh) (RF.dat (k := T1.length) (by simp) b1 ed) e3 (gives (T' := [(v, r)]) RF fun v' H' R' _ => ?_)
  rw [← set_same es] at R'
  exact fin v' H' R'
/-- lambda par: cap.pop(0) -/
theorem act_pop {p : Addr} {q4 : Pos} {j0 : Nat} (I : Inv X pins σ H s) (L : LamS1 X.env.scope scope par) (hne : cap ≠ par) (hNc : X.N[ic]? = some cap) (hσ : σ[ic]? = some (some (.ref p))) (hk : cl.cap = some kc) (hkk : kc.k = .inr p) (hkq : kc.q = X.env.qual ++ "<lambda>") (hkf : kc.f = f) (hkc : kc.c = c')
    (hko : kc.o = PySem.W.kla_obj "<lambda>" (X.env.qual ++ "<lambda>") params (.Call (.Attribute (.Name cap q1) "pop" q2) [.Constant (.int 0) j0 q3] [] q4) scope (cloFrom X.env.cells scope.names []) pm c' ctv)
    (hfree : scope.names.lookup cap = some .free) (hline : (q2.endLine == q4.line) = true)
    (hbind : ∀ u, bindArgs (PySem.W.kla_fn "<lambda>" (X.env.qual ++ "<lambda>") params (.Call (.Attribute (.Name cap q1) "pop" q2) [.Constant (.int 0) j0 q3] [] q4) scope (cloFrom X.env.cells scope.names []) pm (.ref c') ctv) ⟨[u], []⟩ = pure [(par, u)])
    (tk : Takes (cxOf CXg X.prog X.w X.K X.mg X.base Ng qg sg g cdg X.A X.stack s H Eg) W) (hr : Room (k + 1) (X.A.deeper (envOfC qg sg s.heap.objs.size g cdg)))
    (hN : Ng[i]? = some a) (hv : Vis sg a) (hd : (a == ("__debug__" : Str)) = false := by decide) (hcd : (a == ("__classdict__" : Str)) = false := by decide)
    (hd1 : (cap == ("__debug__" : Str)) = false := by decide) (hcd1 : (cap == ("__classdict__" : Str)) = false := by decide)
    (hbase : ∀ (A : Around) (outer : List Env) (s : Shared) (H : Hp), attributeBase (.Name cap q1) "pop" (lamCxN X [cap, par] A outer s H (fun _ _ _ => False) scope kc.f kc.c).env (eval (.Name cap q1) (lamCxN X [cap, par] A outer s H (fun _ _ _ => False) scope kc.f kc.c).env) = eval (.Name cap q1) (lamCxN X [cap, par] A outer s H (fun _ _ _ => False) scope kc.f kc.c).env) :
    ActR (cxOf CXg X.prog X.w X.K X.mg X.base Ng qg sg g cdg X.A X.stack s H Eg) cl W a phiPop i := fun e ma p1 p2 he hs => by
  subst hkf hkc
  refine PE.imp (pe_act1 (CXg := CXg) (Eg := Eg) (pn := (cxOf CXg X.prog X.w X.K X.mg X.base Ng qg sg g cdg X.A X.stack s H Eg).pn) (xe := (cxOf CXg X.prog X.w X.K X.mg X.base Ng qg sg g cdg X.A X.stack s H Eg).xe) (E := fun _ _ _ => False) (W := W) (tb := tBM X.K "list" rPopAt (tVar 0) (tCons (tC (.int 0)) tNil)) I L hne hNc hσ hbind tk (fun _ _ _ _ z => z.elim) hr
    (fun A outer s H _ => pe_bm (X := lamCxN X [cap, par] A outer s H (fun _ _ _ => False) scope kc.f kc.c) F.plainAttrs_list PySem.F.slot_list_pop PySem.F.type_list_pop mt_popAt (pe_var (i := 0) rfl (.inr (.inr hfree)) hd1 hcd1) (pa_cons pe_int pa_nil) (hbase A outer s H) rfl hline rfl rfl) he hN hv hd hcd hs) fun σZ HZ Q h => ?_
  obtain ⟨g1, g2, h⟩ := act_first hk h
  rw [hko] at g2
  refine ⟨g1, g2, ?_⟩
  obtain ⟨C, E, T, R, h⟩ := h
  refine ⟨C, E, T, R, h.imp fun r0 E0 h v H2 R0 b0 => ?_⟩
  obtain ⟨C1, E1, T1, F1, ρ1, r, d, st, d', st', RF, b1, ed, es, ep, g3, g4, fin⟩ := h v H2 R0 b0
  rw [hko] at g3
  rw [hkq] at g4
  obtain ⟨_, _, _, hx⟩ := fn_slot RF hk es
  rw [hkk] at hx
  obtain ⟨hx, hx0⟩ := hx
  obtain ⟨ho, e5, ⟨us, rfl, hd5⟩, _, _⟩ := _root_.id hx
  refine ⟨g3, g4, .ref p, rfl, .inl ⟨rfl, us, SqL.of e5⟩, ?_⟩
  unfold phiPop at ep
  split at ep
  case h_2 => cases ep
  rename_i ds' dv e3
  cases ep
  refine popAt_ok F1 H2 p us st [.int 0] [.int 0] st' d' Q RF.fh e5 hd5 (.cons (.int 0) .nil) e3 fun us' v' h1 h2 => ?_
  have RM : RelF X.K cl C1 F1 ρ1 (E1.set i (.fn st')) T1 σZ (upd H2 p (.lst us')) := RF.drop.mut_fn hk hkk es ⟨us', rfl, h1⟩
  exact fin v' _ (RM.push_val h2).rel
end
end MP

open PySem PySem.Spec L2
namespace MP
/-! ### a def that is handed a list or a dict of one's own and, last, a closure -/
def endC (k : Nat) (E : SEnv) (d : D) : Option (D × MO × List D) := match (E[k]? : Option MP.Slot), (E[k + 1]? : Option MP.Slot) with
  | some (.lnt o), some (.fn st) => some (d, o, st)
  | _, _ => none
def runDefC (k n : Nat) (m : M Fl) (ds : List D) (o : MO) (st : List D) : Option (D × MO × List D) := if ds.length = k then (match m (ds.map Slot.val ++ .lnt o :: .fn st :: List.replicate (n - (k + 2)) .un) with
  | .ok (.rt r) E => (match convL E r with
    | some d => endC k E d
    | none => none)
  | .ok .nx E => endC k E .none
  | _ => none) else none
theorem start_relC {K : PySem.W.Frag} {cl : Cl} {F0 H H0c : Hp} {p f : Addr} {ho : HO} {o : MO} {v1 : List V} {ds1 : List D} {N : List Str} {ρ : Own} {st : List D} (ht : TOk cl.T F0 H) (hsub : Same H0c H) (hnt : ∀ p ∈ cl.T.map (·.1), H0c p = none)
    (hp : H p = some ho) (hm : MRep K F0 ho o) (hF : F0 p = none) (hρ : ρ p = some (.s v1.length)) (hs : Same F0 H) (h1 : DpAll K F0 v1 ds1)
    (hfn : SlotOk K cl ⟨H0c, F0, fun i => if i = v1.length then some p else none, fun _ => none⟩ F0 ρ H (v1.length + 1) (some (.ref f)) (.fn st)) :
    RelF K cl ⟨H0c, F0, fun i => if i = v1.length then some p else none, fun _ => none⟩ F0 ρ (ds1.map Slot.val ++ .lnt o :: .fn st :: List.replicate (N.length - (v1.length + 2)) .un) [] (L2.start N (v1 ++ [.ref p, .ref f])) H where
  len := by unfold L2.start; simp [dps_len h1]
  f0 := L2.Same.refl F0
  fh := hs
  h0 := fun p o e _ => hsub p o e
  hf := fun _ _ _ => rfl
  tb := ht
  nt := hnt
  sl := fun i v s e1 e2 => by
    have l1 := dps_len h1
    rcases Nat.lt_trichotomy i v1.length with hi | hi | hi
    · rw [List.getElem?_append_left (by rw [List.length_map, ← l1]; exact hi), List.getElem?_map] at e2
      rw [start_at (by simp; omega), List.getElem_append_left hi] at e1
      cases e1
      obtain ⟨d, q2, h⟩ := dps_getV h1 (List.getElem?_eq_getElem hi)
      rw [q2] at e2
      cases e2
      exact ⟨_, rfl, h⟩
    · subst hi
      have eE : (ds1.map Slot.val ++ MP.Slot.lnt o :: MP.Slot.fn st :: List.replicate (N.length - (v1.length + 2)) .un)[v1.length]? = some (.lnt o) := by
        rw [List.getElem?_append_right (by rw [List.length_map, l1]; exact Nat.le_refl _), List.length_map, l1, Nat.sub_self]; rfl
      rw [eE] at e2
      cases e2
      rw [start_at (by simp), List.getElem_append_right (Nat.le_refl _)] at e1
      simp only [Nat.sub_self, List.getElem_cons_zero] at e1
      cases e1
      exact ⟨p, rfl, ⟨ho, hp, hm, hF, hρ⟩, if_pos rfl⟩
    · obtain ⟨j, rfl⟩ : ∃ j, i = v1.length + 1 + j := ⟨i - (v1.length + 1), by omega⟩
      have eE : (ds1.map Slot.val ++ MP.Slot.lnt o :: MP.Slot.fn st :: List.replicate (N.length - (v1.length + 2)) .un)[v1.length + 1 + j]? = (MP.Slot.fn st :: List.replicate (N.length - (v1.length + 2)) .un)[j]? := by
        rw [List.getElem?_append_right (by rw [List.length_map, l1]; omega), List.length_map, ← l1, show v1.length + 1 + j - v1.length = j + 1 by omega, List.getElem?_cons_succ]
      rw [eE] at e2
      cases j with
      | zero =>
        cases e2
        rw [start_at (by simp), List.getElem_append_right (by omega)] at e1
        simp only [show v1.length + 1 + 0 - v1.length = 1 by omega, List.getElem_cons_succ, List.getElem_cons_zero] at e1
        cases e1
        exact hfn
      | succ j =>
        rw [List.getElem?_cons_succ] at e2
        have : s = .un := by
          obtain ⟨_, e3⟩ := List.getElem?_eq_some_iff.mp e2
          rw [List.getElem_replicate] at e3
          exact e3.symm
        subst this
        trivial
  ln := fun i q e => by
    dsimp only at e
    split at e
    · rename_i hi
      subst hi
      cases e
      refine ⟨o, ?_, ?_⟩
      · rw [List.getElem?_append_right (by rw [List.length_map, dps_len h1]; exact Nat.le_refl _), List.length_map, dps_len h1, Nat.sub_self]; rfl
      · rw [start_at (by simp), List.getElem_append_right (Nat.le_refl _)]
        simp
    · cases e
  tm := fun k v r e => by simp at e
/-! ### the arguments, a lambda the last -/
def tMAL (K : PySem.W.Frag) (cl : Cl) (W : WX) (lamT : TE) (m : M (List Ret)) : TA := fun σ H Q => ∃ C E T, Rel K cl C E T σ H ∧ Run K cl W C T σ (fun rs E' => ∀ vs H', Rel K cl C E' (T ++ vs.zip rs) σ H' → Bors σ vs rs → lamT σ H' fun v H2 => Q (vs ++ [v]) H2) (m E)
section
variable {X : Cx} {cl : Cl} {W : WX} {e : Expr} {es : List Expr} {ma : M Ret} {ms : M (List Ret)} {lamT : TE}
theorem den_argsL1 (h : PE X e lamT) (hs : starEach [e] X.env = (false, eval e X.env) :: starEach [] X.env := by rfl) : PA X [e] (tMAL X.K cl W lamT mA0) := PA.imp (pa_cons h pa_nil hs) fun σ H Q h => by
  obtain ⟨C, E, T, R, h⟩ := h
  exact h [] H (by simpa using R) trivial
theorem den_argsL (ha : PE X e (tM X.K cl W ma)) (hr : PA X es (tMAL X.K cl W lamT ms)) (hs : starEach (e :: es) X.env = (false, eval e X.env) :: starEach es X.env := by rfl) : PA X (e :: es) (tMAL X.K cl W lamT (mA1 ma ms)) :=
  PA.imp (pa_cons ha hr hs) fun σ H Q h => by
    obtain ⟨C, E, T, R, h⟩ := h
    refine ⟨C, E, T, R, (Run.bind h).imp fun r1 E1 h1 v1 H1 R1 b1 => ⟨C, E1, _, R1, (Run.bind h1).go fun rs E2 h2 vs H2 R2 b2 => ?_⟩⟩
    exact h2 (v1 :: vs) H2 (by simpa using R2) ⟨b1, b2⟩
end
/-- what a def's end leaves -/
structure OutC (K : PySem.W.Frag) (cl : Cl) (p : Addr) (H0c F0 : Hp) (k : Cap) (o' : MO) (st' : List D) (H' F' : Hp) : Prop where
  st : ∀ q o, q ≠ p → H0c q = some o → H' q = some o
  tb : LamX.Tabs cl.T H'
  lent : ∃ ho', H' p = some ho' ∧ F' p = none ∧ MRep K F' ho' o'
  f0 : Same F0 F'
  fh : Same F' H'
  hf : ∀ q o, H0c q = some o → F' q = F0 q
  ft : ∀ q ∈ cl.T.map (·.1), F' q = none
  hid : ∀ p2, k.k = .inr p2 → ∃ ho', H' p2 = some ho' ∧ F' p2 = none ∧ MRep K F' ho' (.lst st')
section
variable {X : Cx} {cl : Cl} {x : Str} {g : Addr} {st : Stmt} {Ng : List Str} {cdv : Value} {pins : List (Addr × Obj)} {s' : Shared}
/-- the run of the def, told by its function -/
theorem run_C {K : PySem.W.Frag} {m : M Fl} {kk : Nat} {k : Cap} {F0 H H0c : Hp} {p : Addr} {o : MO} {v1 : List V} {ds1 : List D} {N : List Str} {ρ : Own} {ss : List D} {G : Option (D × MO × List D)} {Q : VK} (hk : cl.cap = some k) (hl : v1.length = kk)
    (R : RelF K cl ⟨H0c, F0, fun i => if i = v1.length then some p else none, fun _ => none⟩ F0 ρ (ds1.map Slot.val ++ .lnt o :: .fn ss :: List.replicate (N.length - (v1.length + 2)) .un) [] (L2.start N (v1 ++ [.ref p, .ref k.f])) H) (hd : ds1.length = kk)
    (hG : runDefC kk N.length m ds1 o ss = G) (h : match G with
      | some (d, o', ss') => ∀ (v : V) (H' F' : Hp), OutC K cl p H0c F0 k o' ss' H' F' → Dp K F' v d → Q v H'
      | none => False) :
    tMS K cl (fun c d _ H => (fun _ _ _ => False : XK) c d H) m { nx := fun _ H' => Q .non H', rt := Q } (L2.start N (v1 ++ [.ref p, .ref k.f])) H := by
  refine ⟨_, _, [], R.rel, ?_⟩
  unfold runDefC at hG
  rw [if_pos hd] at hG
  subst hl
  have out : ∀ {F' : Hp} {ρ' : Own} {E1 : SEnv} {T' : List (V × Ret)} {σ' : L2.St} {H' : Hp} {o' : MO} {ss' : List D}, RelF K cl ⟨H0c, F0, fun i => if i = v1.length then some p else none, fun _ => none⟩ F' ρ' E1 T' σ' H' → E1[v1.length]? = some (.lnt o') → E1[v1.length + 1]? = some (.fn ss') → OutC K cl p H0c F0 k o' ss' H' F' := fun {F' ρ' E1 T' σ' H' o' ss'} R' e0 e1 => by
    obtain ⟨_, _, _, hx⟩ := fn_slot R' hk e1
    refine ⟨fun q o hq e => R'.h0 q o e fun i z => ?_, R'.tb.1, ?_, R'.f0, R'.fh, R'.hf, R'.tb.2, fun p2 hp2 => ?_⟩
    · dsimp only at z
      split at z
      · cases z; exact hq rfl
      · cases z
    · obtain ⟨o2, h1, h2⟩ := R'.ln v1.length p (if_pos rfl)
      obtain ⟨p', e, ⟨ho2, g1, g2, g3, _⟩, _⟩ := R'.sl _ _ _ h2 e0
      cases e
      exact ⟨ho2, g1, g3, g2⟩
    · rw [hp2] at hx
      obtain ⟨⟨ho2, g1, g2, g3, _⟩, _⟩ := hx
      exact ⟨ho2, g1, g3, g2⟩
  cases q : m (ds1.map Slot.val ++ .lnt o :: .fn ss :: List.replicate (N.length - (v1.length + 2)) .un) with
  | no => rw [q] at hG; subst hG; exact h.elim
  | ex x E1 => rw [q] at hG; subst hG; exact h.elim
  | ok fl E1 =>
    rw [q] at hG
    have fin : ∀ {d : D} {F' : Hp} {ρ' : Own} {T' : List (V × Ret)} {σ' : L2.St} {H' : Hp} {v : V}, RelF K cl ⟨H0c, F0, fun i => if i = v1.length then some p else none, fun _ => none⟩ F' ρ' E1 T' σ' H' → Dp K F' v d → endC v1.length E1 d = G → Q v H' := fun {d F' ρ' T' σ' H' v} R' hv e => by
      unfold endC at e
      split at e
      · rename_i o' ss' e0 e1
        subst e
        exact h v H' F' (out R' e0 e1) hv
      · subst e
        exact h.elim
    cases fl with
    | bk => subst hG; exact h.elim
    | ct => subst hG; exact h.elim
    | nx =>
      intro σ' H' ⟨F', ρ', R'⟩
      exact fin R' .non hG
    | rt r =>
      intro v σ' H' ⟨F', ρ', R'⟩ bo
      dsimp only at hG
      cases qc : convL E1 r with
      | none => rw [qc] at hG; subst hG; exact h.elim
      | some dv =>
        rw [qc] at hG
        have hv : Dp K F' v dv := by
          cases r with
          | val x' => cases qc; exact R'.tm 0 v _ rfl
          | own o => cases qc
          | bor i =>
            unfold convL at qc
            dsimp only at qc
            split at qc
            · rename_i x e3
              cases qc
              obtain ⟨y, z1, z2⟩ := R'.sl i _ _ (show σ'[i]? = some (some v) from bo) e3
              cases z1
              exact z2
            · cases qc
        exact fin R' hv hG
end
end MP

open PySem PySem.Spec L2
namespace MP
open PyProof.Rows (envOfC)
/-! ### gone(.., a list or dict of one's own, lambda x: t[x]) -/
noncomputable def mCallA (kk : Nat) (G : List D → MO → List D → Option (D × MO × List D)) (ic : Nat) (ms : M (List Ret)) : M Ret := fun E => (ms E).bind fun rs E1 => match rs.drop kk with
  | [.bor i] => (match takes E1 (rs.take kk) with
    | some (ds, E2) => (match (E2[i]? : Option MP.Slot), (E2[ic]? : Option MP.Slot) with
      | some (.own o), some (.val (.tuple ss)) => (match G ds o ss with
        | some (d, o', _) => .ok (.val d) (E2.set i (.own o'))
        | none => .no)
      | _, _ => .no)
    | none => .no)
  | _ => .no
noncomputable def mCallP (kk : Nat) (G : List D → MO → List D → Option (D × MO × List D)) (ic : Nat) (ms : M (List Ret)) : M Ret := fun E => (ms E).bind fun rs E1 => match rs.drop kk with
  | [.bor i] => if i = ic then .no else (match takes E1 (rs.take kk) with
    | some (ds, E2) => (match (E2[i]? : Option MP.Slot), (E2[ic]? : Option MP.Slot) with
      | some (.own o), some (.own (.lst ss)) => (match G ds o ss with
        | some (d, o', ss') => .ok (.val d) ((E2.set i (.own o')).set ic (.own (.lst ss')))
        | none => .no)
      | _, _ => .no)
    | none => .no)
  | _ => .no
/-- how the arguments lie -/
theorem call_key {K : PySem.W.Frag} {cl : Cl} {C : Ctx} {F1 : Hp} {ρ1 : Own} {E1 : SEnv} {T : List (V × Ret)} {σ : L2.St} {H1 : Hp} {rs : List Ret} {vs : List V} {kk i : Nat} {ds : List D} {E2 : SEnv} (RF : RelF K cl C F1 ρ1 E1 (T ++ vs.zip rs) σ H1) (b1 : Bors σ vs rs) (e : rs.drop kk = [.bor i]) (e2 : takes E1 (rs.take kk) = some (ds, E2)) :
    ∃ (v1 : List V) (v : V) (F2 : Hp), vs = v1 ++ [v] ∧ v1.length = kk ∧ ds.length = kk ∧ σ[i]? = some (some v) ∧ Same F1 F2 ∧ RelF K cl C F2 ρ1 E2 T σ H1 ∧ DpAll K F2 v1 ds := by
  have hrs : rs = rs.take kk ++ Ret.bor i :: [] := by rw [← e, List.take_append_drop]
  have hkl : (rs.take kk).length = kk := by
    have := congrArg List.length e
    rw [List.length_drop, List.length_cons] at this
    rw [List.length_take]; omega
  rw [hrs] at b1 RF
  obtain ⟨v1, v, v2, rfl, hl, c1, c0, c2⟩ := bors_app b1
  have : v2 = [] := by
    cases v2 with
    | nil => rfl
    | cons _ _ => exact c2.elim
  subst this
  have hz : (v1 ++ [v]).zip (rs.take kk ++ [Ret.bor i]) = v1.zip (rs.take kk) ++ [(v, Ret.bor i)] := by
    rw [List.zip_append hl]; rfl
  rw [hz] at RF
  obtain ⟨F2, f2, R2, g1⟩ := RF.takesT c1 e2
  exact ⟨v1, v, F2, rfl, by omega, by rw [← dps_len g1]; omega, c0, f2, R2.drop, g1⟩
section
variable {X : Cx} {cl : Cl} {W : WX} {x : Str} {g : Addr} {st : Stmt} {fd : FuncData} {Ng ps : List Str} {kr kk ic : Nat} {e : Expr} {es : List Expr} {p pos q1 q2 q3 : Pos} {ms : M (List Ret)} {P : Addr} {params : Arguments} {scope : Scope} {par cap a : Str} {m : Phi → M Fl} {q4 : Pos} {j0 : Nat}
theorem den_callA (F : Fun X.K x x st g fd) (S : FnScope Ng ps (defScope st)) (tk : Takes X W) (hr : Room (kr + 2) X.A) (hg : Gl X x) (hm : X.mg x = some (.ref g)) (hb : L2.Binds X.K fd ps [])
    (hT : (P, X.env.qual ++ "<lambda>") ∈ cl.T) (L : LamS1 X.env.scope scope par) (hne : cap ≠ par) (hNc : X.N[ic]? = some cap) (hfree : scope.names.lookup cap = some .free)
    (ha : PA X (e :: es) (tMAL X.K cl W (tLam1 cl.T P X params (.Subscript (.Name cap q1) (.Name par q2) q3) scope) ms)) (hps : ps.length = kk + 2) (hNa : Ng[kk + 1]? = some a) (hva : Vis (defScope st) a)
    (hbind : ∀ (cl : List (Str × Addr)) (pm cv ctv u : Value), bindArgs (PySem.W.kla_fn "<lambda>" (X.env.qual ++ "<lambda>") params (.Subscript (.Name cap q1) (.Name par q2) q3) scope cl pm cv ctv) ⟨[u], []⟩ = pure [(par, u)])
    (hbody : ∀ (cl' : Cl), cl'.a = cl.a → cl'.T = cl.T → ∀ (cdv : Value) (A : Around) (outer : List Env) (s : Shared) (H : Hp) (E : XK), Room (kr + 1) (A.deeper (envOfC x (defScope st) s.heap.objs.size g cdv)) →
      ActR (cxOf (L2.CX X.prog X.w) X.prog X.w X.K X.mg X.base Ng x (defScope st) g cdv A outer s H E) cl' (fun c d _ H => E c d H) a phiIx (kk + 1) →
      PSs (cxOf (L2.CX X.prog X.w) X.prog X.w X.K X.mg X.base Ng x (defScope st) g cdv A outer s H E) (defBody st) (tMS X.K cl' (fun c d _ H => E c d H) (m phiIx)))
    (hdb : (x == ("__debug__" : Str)) = false := by decide) (he : starEach (e :: es) X.env = (false, eval e X.env) :: starEach es X.env := by rfl) (hpl : (backTo pos (starEach es X.env)).any (·.1) = false := by rfl)
    (hd : (a == ("__debug__" : Str)) = false := by decide) (hcd : (a == ("__classdict__" : Str)) = false := by decide)
    (hd1 : (cap == ("__debug__" : Str)) = false := by decide) (hcd1 : (cap == ("__classdict__" : Str)) = false := by decide) (hd2 : (par == ("__debug__" : Str)) = false := by decide) (hcd2 : (par == ("__classdict__" : Str)) = false := by decide) :
    PE X (.Call (.Name x p) (e :: es) [] pos) (tM X.K cl W (mCallA kk (runDefC kk Ng.length (m phiIx)) ic ms)) := by
  obtain ⟨cdv, hcall⟩ := pe_callV (k := kr + 1) (W := W) F S tk hr hg hm hb ha hdb he hpl
  refine PE.imp hcall fun σ H Q h => ?_
  obtain ⟨C, E, T, R, h⟩ := h
  refine ⟨C, E, T, R, (Run.bind h).imp fun rs E1 h1 vs H1 R1 b1 => ?_⟩
  split at h1
  case h_2 => exact h1.elim
  rename_i i er
  split at h1
  case h_2 => exact h1.elim
  rename_i ds E2 e2
  split at h1
  case h_2 => exact h1.elim
  rename_i o ss es1 es2
  obtain ⟨F1, ρ1, RF⟩ := R1
  obtain ⟨v1, v, F2, rfl, hl, hdl, hσi, f2, R2, g1⟩ := call_key RF b1 er e2
  obtain ⟨q, eq0, ⟨ho, z2, z3, z4, z5⟩, z6⟩ := R2.sl i _ _ hσi es1
  cases eq0
  obtain ⟨wc, hwc⟩ := slot_there R2 es2
  obtain ⟨xc, rfl, hxc⟩ := R2.sl ic _ _ hwc es2
  refine ⟨R2.tb.1, fun f c' pm ctv H2 hk1 hT2 hfn hf hc => ?_⟩
  -- the heap with the lambda
  have hS : Stp cl.T H1 H2 := ⟨fun b o e => hk1 b o (fun z => by
    subst z
    rw [show noT cl.T H1 b = none from if_pos (List.mem_map.mpr ⟨_, hT, rfl⟩)] at e
    cases e) (noT_sub b o e), hT2⟩
  have R3 : RelF X.K cl C F2 ρ1 E2 T σ H2 := R2.after hS (L2.Same.refl F2) (same_stp R2 hS) (fun _ _ _ => rfl)
  obtain ⟨q', eq1, ⟨ho3, z23, z33, z43, z53⟩, _⟩ := R3.sl i _ _ hσi es1
  cases eq1
  have eho : ho3 = ho := by
    have := hS.1 q ho ((noT_at (noT_no R2.tb.1 z2 (mrep_tbl z3))).trans z2)
    rw [z23] at this
    exact Option.some.inj this
  subst eho
  have nfT : f ∉ cl.T.map (·.1) := noT_no hT2 hf fun _ z => by cases z
  have ncT : c' ∉ cl.T.map (·.1) := noT_no hT2 hc fun _ z => by unfold LamX.CodeO at z; cases z
  refine ⟨by rw [List.length_append, List.length_append, hl, hps]; rfl, fun pins s' I hr' => ?_⟩
  let kc : Cap := ⟨f, c', X.env.qual ++ "<lambda>", PySem.W.kla_obj "<lambda>" (X.env.qual ++ "<lambda>") params (.Subscript (.Name cap q1) (.Name par q2) q3) scope (cloFrom X.env.cells scope.names []) pm c' ctv, .inl xc⟩
  let cl' : Cl := ⟨cl.a, cl.T, some kc⟩
  have act : ActR (cxOf (L2.CX X.prog X.w) X.prog X.w X.K X.mg X.base Ng x (defScope st) g cdv X.A X.stack s' H2 (fun _ _ _ => False)) cl' (fun c d _ H => (fun _ _ _ => False : XK) c d H) a phiIx (kk + 1) :=
    act_ix (x := xc) (kc := kc) (f := f) (c' := c') (k := kr) I L hne hNc hwc rfl rfl rfl rfl rfl rfl hfree (fun u => hbind _ _ _ _ u) (takes_of rfl rfl rfl rfl) hr' hNa hva hd hcd hd1 hcd1 hd2 hcd2
  refine ⟨_, hbody cl' rfl rfl cdv X.A X.stack s' H2 (fun _ _ _ => False) hr' act, ?_⟩
  have RS : RelF X.K cl' ⟨noT cl.T H2, F2, fun j => if j = v1.length then some q else none, fun _ => none⟩ F2 (fun b => if b = q then some (.s v1.length) else none) (ds.map Slot.val ++ .lnt o :: .fn ss :: List.replicate (Ng.length - (v1.length + 2)) .un) [] (L2.start Ng (v1 ++ [.ref q, .ref f])) H2 :=
    start_relC (cl := cl') R3.tb noT_sub (fun b hb => if_pos hb) z23 z33 z43 (if_pos rfl) R3.fh g1 ⟨kc, rfl, rfl, (noT_at nfT).trans hf, (noT_at ncT).trans hc, fun j => by
      dsimp only
      split
      · refine ⟨fun z => ?_, fun z => ?_⟩
        · cases z
          rw [hf] at z23
          exact mrep_fun z33 _ _ (Option.some.inj z23).symm
        · cases z
          rw [hc] at z23
          exact mrep_code z33 _ _ (Option.some.inj z23).symm
      · exact ⟨fun z => (nomatch z), fun z => (nomatch z)⟩, (hxc : Dp X.K F2 xc (.tuple ss))⟩
  have hEq : v1 ++ [V.ref q] ++ [V.ref f] = v1 ++ [.ref q, .ref f] := by simp
  rw [hEq]
  split at h1
  case h_2 => exact h1.elim
  rename_i d o' ss' eg
  refine run_C (K := X.K) (cl := cl') (k := kc) (kk := kk) (m := m phiIx) rfl hl RS hdl eg ?_
  intro v H' F' OC hv
  obtain ⟨ho', l1, l2, l3⟩ := OC.lent
  have hx : StpX cl.T q H2 H' := ⟨OC.st, OC.tb⟩
  have s1 := hx.back z23 l1 l3
  have s2 : Same F' (upd H' q ho3) := fun a o e => by
    by_cases ha : a = q
    · subst ha; rw [l2] at e; cases e
    · rw [upd_ne ha]; exact OC.fh a o e
  have RA := R3.after s1 OC.f0 s2 (noT_hf R3.tb.2 OC.ft OC.hf)
  have RM := RA.mut_own es1 hσi (o' := o') (ho' := ho') l3
  have eH : upd (upd H' q ho3) q ho' = H' := by
    funext a
    by_cases ha : a = q
    · subst ha; rw [l1]; simp [upd]
    · rw [upd_ne ha, upd_ne ha]
  rw [eH] at RM
  exact h1 v H' (RM.push_val hv).rel trivial
theorem den_callP (F : Fun X.K x x st g fd) (S : FnScope Ng ps (defScope st)) (tk : Takes X W) (hr : Room (kr + 2) X.A) (hg : Gl X x) (hm : X.mg x = some (.ref g)) (hb : L2.Binds X.K fd ps [])
    (hT : (P, X.env.qual ++ "<lambda>") ∈ cl.T) (L : LamS1 X.env.scope scope par) (hne : cap ≠ par) (hNc : X.N[ic]? = some cap) (hfree : scope.names.lookup cap = some .free) (hline : (q2.endLine == q4.line) = true)
    (ha : PA X (e :: es) (tMAL X.K cl W (tLam1 cl.T P X params (.Call (.Attribute (.Name cap q1) "pop" q2) [.Constant (.int 0) j0 q3] [] q4) scope) ms)) (hps : ps.length = kk + 2) (hNa : Ng[kk + 1]? = some a) (hva : Vis (defScope st) a)
    (hbind : ∀ (cl : List (Str × Addr)) (pm cv ctv u : Value), bindArgs (PySem.W.kla_fn "<lambda>" (X.env.qual ++ "<lambda>") params (.Call (.Attribute (.Name cap q1) "pop" q2) [.Constant (.int 0) j0 q3] [] q4) scope cl pm cv ctv) ⟨[u], []⟩ = pure [(par, u)])
    (hbody : ∀ (cl' : Cl), cl'.a = cl.a → cl'.T = cl.T → ∀ (cdv : Value) (A : Around) (outer : List Env) (s : Shared) (H : Hp) (E : XK), Room (kr + 1) (A.deeper (envOfC x (defScope st) s.heap.objs.size g cdv)) →
      ActR (cxOf (L2.CX X.prog X.w) X.prog X.w X.K X.mg X.base Ng x (defScope st) g cdv A outer s H E) cl' (fun c d _ H => E c d H) a phiPop (kk + 1) →
      PSs (cxOf (L2.CX X.prog X.w) X.prog X.w X.K X.mg X.base Ng x (defScope st) g cdv A outer s H E) (defBody st) (tMS X.K cl' (fun c d _ H => E c d H) (m phiPop)))
    (hdb : (x == ("__debug__" : Str)) = false := by decide) (he : starEach (e :: es) X.env = (false, eval e X.env) :: starEach es X.env := by rfl) (hpl : (backTo pos (starEach es X.env)).any (·.1) = false := by rfl)
    (hd : (a == ("__debug__" : Str)) = false := by decide) (hcd : (a == ("__classdict__" : Str)) = false := by decide)
    (hd1 : (cap == ("__debug__" : Str)) = false := by decide) (hcd1 : (cap == ("__classdict__" : Str)) = false := by decide) :
    PE X (.Call (.Name x p) (e :: es) [] pos) (tM X.K cl W (mCallP kk (runDefC kk Ng.length (m phiPop)) ic ms)) := by
  obtain ⟨cdv, hcall⟩ := pe_callV (k := kr + 1) (W := W) F S tk hr hg hm hb ha hdb he hpl
  refine PE.imp hcall fun σ H Q h => ?_
  obtain ⟨C, E, T, R, h⟩ := h
  refine ⟨C, E, T, R, (Run.bind h).imp fun rs E1 h1 vs H1 R1 b1 => ?_⟩
  split at h1
  case h_2 => exact h1.elim
  rename_i i er
  split at h1
  · exact h1.elim
  rename_i hic
  split at h1
  case h_2 => exact h1.elim
  rename_i ds E2 e2
  split at h1
  case h_2 => exact h1.elim
  rename_i o ss es1 es2
  obtain ⟨F1, ρ1, RF⟩ := R1
  obtain ⟨v1, v, F2, rfl, hl, hdl, hσi, f2, R2, g1⟩ := call_key RF b1 er e2
  obtain ⟨q, eq0, ⟨ho, z2, z3, z4, z5⟩, z6⟩ := R2.sl i _ _ hσi es1
  cases eq0
  obtain ⟨wc, hwc⟩ := slot_there R2 es2
  obtain ⟨p2, rfl, hp2, hp20⟩ := R2.sl ic _ _ hwc es2
  refine ⟨R2.tb.1, fun f c' pm ctv H2 hk1 hT2 hfn hf hc => ?_⟩
  -- the heap with the lambda
  have hS : Stp cl.T H1 H2 := ⟨fun b o e => hk1 b o (fun z => by
    subst z
    rw [show noT cl.T H1 b = none from if_pos (List.mem_map.mpr ⟨_, hT, rfl⟩)] at e
    cases e) (noT_sub b o e), hT2⟩
  have R3 : RelF X.K cl C F2 ρ1 E2 T σ H2 := R2.after hS (L2.Same.refl F2) (same_stp R2 hS) (fun _ _ _ => rfl)
  obtain ⟨q', eq1, ⟨ho3, z23, z33, z43, z53⟩, _⟩ := R3.sl i _ _ hσi es1
  cases eq1
  have eho : ho3 = ho := by
    have := hS.1 q ho ((noT_at (noT_no R2.tb.1 z2 (mrep_tbl z3))).trans z2)
    rw [z23] at this
    exact Option.some.inj this
  subst eho
  obtain ⟨p2', eq2, hp3, hp30⟩ := R3.sl ic _ _ hwc es2
  cases eq2
  obtain ⟨ho2, y2, y3, y4, y5⟩ := _root_.id hp3
  have nqp : q ≠ p2 := fun z => by
    rw [z, y5] at z53
    injection z53 with z53
    injection z53 with z53
    exact hic z53.symm
  have nfT : f ∉ cl.T.map (·.1) := noT_no hT2 hf fun _ z => by cases z
  have ncT : c' ∉ cl.T.map (·.1) := noT_no hT2 hc fun _ z => by unfold LamX.CodeO at z; cases z
  refine ⟨by rw [List.length_append, List.length_append, hl, hps]; rfl, fun pins s' I hr' => ?_⟩
  let kc : Cap := ⟨f, c', X.env.qual ++ "<lambda>", PySem.W.kla_obj "<lambda>" (X.env.qual ++ "<lambda>") params (.Call (.Attribute (.Name cap q1) "pop" q2) [.Constant (.int 0) j0 q3] [] q4) scope (cloFrom X.env.cells scope.names []) pm c' ctv, .inr p2⟩
  let cl' : Cl := ⟨cl.a, cl.T, some kc⟩
  have act : ActR (cxOf (L2.CX X.prog X.w) X.prog X.w X.K X.mg X.base Ng x (defScope st) g cdv X.A X.stack s' H2 (fun _ _ _ => False)) cl' (fun c d _ H => (fun _ _ _ => False : XK) c d H) a phiPop (kk + 1) :=
    act_pop (p := p2) (kc := kc) (f := f) (c' := c') (k := kr) I L hne hNc hwc rfl rfl rfl rfl rfl rfl hfree hline (fun u => hbind _ _ _ _ u) (takes_of rfl rfl rfl rfl) hr' hNa hva hd hcd hd1 hcd1 (fun _ _ _ _ => rfl)
  refine ⟨_, hbody cl' rfl rfl cdv X.A X.stack s' H2 (fun _ _ _ => False) hr' act, ?_⟩
  have RS : RelF X.K cl' ⟨fun b => if b = p2 then none else noT cl.T H2 b, F2, fun j => if j = v1.length then some q else none, fun _ => none⟩ F2 (fun b => if b = q then some (.s v1.length) else if b = p2 then some (.s (v1.length + 1)) else none) (ds.map Slot.val ++ .lnt o :: .fn ss :: List.replicate (Ng.length - (v1.length + 2)) .un) [] (L2.start Ng (v1 ++ [.ref q, .ref f])) H2 := by
    have nfp : f ≠ p2 := fun z => by
      rw [z, y2] at hf
      exact mrep_fun y3 _ _ (Option.some.inj hf)
    have ncp : c' ≠ p2 := fun z => by
      rw [z, y2] at hc
      exact mrep_code y3 _ _ (Option.some.inj hc)
    refine start_relC (cl := cl') R3.tb (fun b o e => ?_) (fun b hb => ?_) z23 z33 z43 (if_pos rfl) R3.fh g1 ⟨kc, rfl, rfl, (if_neg nfp).trans ((noT_at nfT).trans hf), (if_neg ncp).trans ((noT_at ncT).trans hc), fun j => ?_, ⟨ho2, y2, y3, y4, (if_neg (Ne.symm nqp)).trans (if_pos rfl)⟩, if_pos rfl⟩
    · split at e
      · cases e
      · exact noT_sub b o e
    · split
      · rfl
      · exact if_pos hb
    · dsimp only
      split
      · refine ⟨fun z => ?_, fun z => ?_⟩
        · cases z
          rw [hf] at z23
          exact mrep_fun z33 _ _ (Option.some.inj z23).symm
        · cases z
          rw [hc] at z23
          exact mrep_code z33 _ _ (Option.some.inj z23).symm
      · exact ⟨fun z => (nomatch z), fun z => (nomatch z)⟩
  have hEq : v1 ++ [V.ref q] ++ [V.ref f] = v1 ++ [.ref q, .ref f] := by simp
  rw [hEq]
  split at h1
  case h_2 => exact h1.elim
  rename_i d o' ss' eg
  refine run_C (K := X.K) (cl := cl') (k := kc) (kk := kk) (m := m phiPop) rfl hl RS hdl eg ?_
  intro v H' F' OC hv
  obtain ⟨ho', l1, l2, l3⟩ := OC.lent
  obtain ⟨ho2', m1, m2, m3⟩ := OC.hid p2 rfl
  have s1 : Stp cl.T H2 (upd (upd H' q ho3) p2 ho2) := ⟨fun b u e => by
    have e' := noT_sub b u e
    by_cases h1 : b = p2
    · subst h1; rw [y2] at e'; cases e'; exact upd_same
    · rw [upd_ne h1]
      by_cases h2 : b = q
      · subst h2; rw [z23] at e'; cases e'; exact upd_same
      · rw [upd_ne h2]
        exact OC.st b u h2 ((if_neg h1).trans e), tabs_mut (tabs_mut OC.tb l1 l3) ((upd_ne (Ne.symm nqp)).trans m1) m3⟩
  have s2 : Same F' (upd (upd H' q ho3) p2 ho2) := fun a o e => by
    have h1 : a ≠ p2 := fun z => by subst z; rw [m2] at e; cases e
    have h2 : a ≠ q := fun z => by subst z; rw [l2] at e; cases e
    rw [upd_ne h1, upd_ne h2]; exact OC.fh a o e
  have RA := R3.after s1 OC.f0 s2 (fun b u e => by
    by_cases h1 : b = p2
    · subst h1; rw [m2, y4]
    · by_cases hT : b ∈ cl.T.map (·.1)
      · rw [OC.ft b hT, R3.tb.2 b hT]
      · exact OC.hf b u ((if_neg h1).trans ((noT_at hT).trans e)))
  have RM := RA.mut_own es1 hσi (o' := o') (ho' := ho') l3
  have RM2 := RM.mut_own (i := ic) (by rw [List.getElem?_set_ne hic]; exact es2) hwc (o' := .lst ss') (ho' := ho2') m3
  have eH : upd (upd (upd (upd H' q ho3) p2 ho2) q ho') p2 ho2' = H' := by
    funext a
    by_cases h1 : a = p2
    · subst h1; rw [upd_same, m1]
    · rw [upd_ne h1]
      by_cases h2 : a = q
      · subst h2; rw [upd_same, l1]
      · rw [upd_ne h2, upd_ne h1, upd_ne h2]
  rw [eH] at RM2
  exact h1 v H' (RM2.push_val hv).rel trivial
end
end MP

open PySem PySem.Spec L2
/-! ### list(d.values()) -/
namespace LV
open PySem PySem.Spec PyProof.Rows L2
section
variable {X : Cx} {e : Expr} {te : TE} {p apos cpos pos : Pos}
def tListVals (te : TE) : TE := fun σ H Q => te σ H fun x H1 => ∃ (d : Addr) (kvs : List (Key × V)), x = .ref d ∧ H1 d = some (.dK kvs) ∧ ∀ q, H1 q = none → Q (.ref q) (upd H1 q (.lst (kvs.map (·.2))))
theorem vals_vals {kvs : List (Key × V)} {vs : List (Key × Value)} {acc : Array Value} (kv : KV kvs vs) (h : ItemsOf (fun i v => ∃ k, vs[i]? = some (k, v)) acc vs.length) : Vals (kvs.map (·.2)) acc.toList := by
  have e : acc.toList = vs.map (·.2) := by
    apply List.ext_getElem?
    intro j
    by_cases hj : j < acc.toList.length
    · have e1 : acc.toList[j]? = some acc.toList[j] := List.getElem?_eq_getElem hj
      obtain ⟨k, e2⟩ := h.2 j _ (by rw [← Array.getElem?_toList]; exact e1)
      rw [e1, List.getElem?_map, e2]
      simp
    · have hl : acc.toList.length = vs.length := by rw [Array.length_toList]; exact h.1
      rw [List.getElem?_eq_none (by omega), List.getElem?_eq_none (by rw [List.length_map]; omega)]
  rw [e]
  unfold KV at kv
  clear e h
  induction kv with
  | nil => exact .nil
  | cons a b ih => exact .cons a.2 ih
theorem pe_listVals (hc : X.calm = true) (he : PE X e te) (hg : Gl X "list") (hm : X.mg "list" = none) (hv : bootBuiltins "list" = some (.type "list")) (hbase : attributeBase e "values" X.env (eval e X.env) = eval e X.env := by rfl) (hline : (apos.endLine == cpos.line) = true := by rfl)
    (hs : starEach [.Call (.Attribute e "values" apos) [] [] cpos] X.env = (false, eval (.Call (.Attribute e "values" apos) [] [] cpos) X.env) :: starEach [] X.env := by rfl) :
    PE X (.Call (.Name "list" p) [.Call (.Attribute e "values" apos) [] [] cpos] [] pos) (tListVals te) := by
  refine ⟨fun pins s σ H Q I hq => ?_⟩
  refine wpAny_Call_Name_kw (ld_blt I hg hm hv ?_)
  refine PyProof.Rows.callWith_type1 ?_ hs rfl
  rw [hs]
  show wpAny _ _ (spliced ((false, eval (.Call (.Attribute e "values" apos) [] [] cpos) X.env) :: backTo pos (starEach [] X.env))) _ _ s
  refine Calls.spliced_cons ?_
  refine wpAny_Call_method (T := "dict") (id := "dict.values") hbase rfl hline F.plainAttrs_dict F.slot_dict_values F.type_dict_values (thn (he.run pins s σ H _ I hq) fun u s1 ⟨x, H1, I1, rx, d, kvs, ex, hd, q⟩ => ?_)
  subst ex
  obtain rfl : u = Value.ref d := rx
  obtain ⟨hz, hs0, vs, kv, hdo⟩ := I1.hok d _ hd
  obtain ⟨ep, hat⟩ := hdo.dictAt
  have lk : kvs.length = vs.length := Paired.length kv
  have k0 : ∀ b o, s1.heap.get? b = some o → (s1.heap.push { cls := .type "dict_values", data := .fields #[.ref d] }).get? b = some o := fun b ob q => Heap.get?_push_of_some _ q
  have I2 : Inv X pins σ H1 { s1 with heap := s1.heap.push { cls := .type "dict_values", data := .fields #[.ref d] } } := I1.kept (t' := s1.toks) k0
  refine ⟨hdo.typeIs, hdo.mapOf.noDict, ?_⟩
  show wpAny _ _ (callWith cpos (.builtin "dict.values") [.ref d] [] []) _ X.xe s1
  refine method_meetsIn F.slot_dict_values F.entry_dict_values rfl (PySem.evalArgs_none ⟨rfl, hdo.typeIs, F.args_dict_values_1 _, _, meets_dict_values (mixKind X.prog X.w) d hs0, ⟨vs, hdo⟩, ?_⟩)
  refine Calls.spliced_nil ?_
  refine PySem.W.kdl_call (PySem.W.kdl_values (knd := mixKind X.prog X.w) (kvs := vs) (ep := ep)) (I1.ok.hd hc) ⟨⟨_, Heap.get?_push_size _ rfl, rfl, rfl⟩, hat.push _⟩ (by omega) fun h' tk acc c hk hS hacc => ?_
  refine ⟨.ref _, _, I2.laid (t' := tk) (o := .lst (kvs.map (·.2))) hk (Nat.le_refl _) (show ObjOk X.prog X.w _ _ _ (.lst (kvs.map (·.2))) from ⟨by rw [List.length_map]; omega, acc.toList, c, vals_vals kv hacc, ?_⟩), rfl, q _ (I2.hok.fresh (Nat.le_refl _))⟩
  rw [Array.toArray_toList]
  exact hS
end
end LV
namespace MP
/-! ### dicts with plain keys, one's own or lent -/
def dicOf (s : Option Slot) : Option (List (Key × D)) := match s with
  | some (.own (.dic kds)) => some kds
  | some (.lnt (.dic kds)) => some kds
  | _ => none
def putDic (s : Option Slot) (kds : List (Key × D)) : Slot := match s with
  | some (.lnt _) => .lnt (.dic kds)
  | _ => .own (.dic kds)
section
variable {K : PySem.W.Frag} {cl : Cl} {C : Ctx} {F : Hp} {ρ : Own} {E : SEnv} {T : List (V × Ret)} {σ : St} {H : Hp} {i : Nat}
theorem dic_at (R : RelF K cl C F ρ E T σ H) {w : Option V} (hw : σ[i]? = some w) {kds : List (Key × D)} (h : dicOf E[i]? = some kds) :
    ∃ q kvs, w = some (.ref q) ∧ H q = some (.dK kvs) ∧ PrK K F kvs kds ∧ ∀ kvs' kds', PrK K F kvs' kds' → ∃ ρ', RelF K cl C F ρ' (E.set i (putDic E[i]? kds')) T σ (upd H q (.dK kvs')) := by
  unfold dicOf at h
  split at h
  · rename_i es
    cases h
    obtain ⟨q, rfl, ⟨ho, z2, ⟨kvs, rfl, z3⟩, z4, z5⟩, z6⟩ := R.sl i _ _ hw es
    refine ⟨q, kvs, rfl, z2, z3, fun kvs' kds' h' => ⟨ρ, ?_⟩⟩
    rw [es]
    exact R.mut_own es hw (o' := .dic kds') ⟨_, rfl, h'⟩
  · rename_i es
    cases h
    obtain ⟨q, rfl, ⟨ho, z2, ⟨kvs, rfl, z3⟩, z4, z5⟩, z6⟩ := R.sl i _ _ hw es
    refine ⟨q, kvs, rfl, z2, z3, fun kvs' kds' h' => ⟨ρ, ?_⟩⟩
    rw [es]
    exact R.mut_lnt es hw (o' := .dic kds') ⟨_, rfl, h'⟩
  · cases h
theorem dic_there (R : RelF K cl C F ρ E T σ H) {kds : List (Key × D)} (h : dicOf E[i]? = some kds) : ∃ w, σ[i]? = some w := by
  cases q : E[i]? with
  | none => rw [q] at h; cases h
  | some s => exact slot_there R q
end
def linE (neg : Bool) (s : Option Slot) (d : Option D) : Option Rv := match dicOf s, d.bind keyD with
  | some kds, some k => some (.val (.bool (if neg then !(valD kds k).isSome else (valD kds k).isSome)))
  | _, _ => none
/-- key in d, key not in d -/
def mLin (neg : Bool) (i : Nat) (mk : M Ret) : M Ret := fun E => (mk E).bind fun r E1 => retO (linE neg E1[i]? (dat E1 r)) E1
section
variable {X : Cx} {cl : Cl} {W : WX} {e o : Expr} {pos vpos : Pos} {mk mv : M Ret}
theorem lin_of (i : Nat) (neg : Bool) (σ : St) (H : Hp) (Q : VK) (h : tM X.K cl W (mLin neg i mk) σ H Q) : (if neg then tDNotIn (tM X.K cl W mk) (tVar i) σ H Q else tDIn (tM X.K cl W mk) (tVar i) σ H Q) := by
  obtain ⟨C, E, T, R, h⟩ := h
  have key : tM X.K cl W mk σ H fun y H1 => tVar i σ H1 fun x H2 => ∃ a o, x = .ref a ∧ DGet H2 a y o ∧ Q (.bl (if neg then !o.isSome else o.isSome)) H2 := by
    refine ⟨C, E, T, R, (Run.bind h).imp fun r E1 h1 v1 H1 R1 b1 => ?_⟩
    obtain ⟨rv, e1, p⟩ := retO_run h1
    unfold linE at e1
    split at e1
    · rename_i kds k es ek
      cases e1
      obtain ⟨d, ed, ek⟩ := Option.bind_eq_some_iff.mp ek
      obtain ⟨F, ρ, RF⟩ := R1
      obtain ⟨w, hw⟩ := dic_there RF es
      obtain ⟨q, kvs, rfl, z2, z3, _⟩ := dic_at RF hw es
      have hk := key_dpt (RF.dat (k := T.length) (by simp) b1 ed) ek
      subst hk
      refine ⟨.ref q, hw, q, _, rfl, DGet.k z2, ?_⟩
      have hv : (valV kvs k).isSome = (valD kds k).isSome := by
        rcases prk_val (k := k) z3 with ⟨h1, h2⟩ | ⟨v, d, h1, h2, _⟩
        · rw [h1, h2]; rfl
        · rw [h1, h2]; rfl
      rw [hv]
      exact (gives (T' := [(kV k, r)]) RF p).bool
    · cases e1
  cases neg with
  | true => exact key
  | false => exact key
theorem den_lin (i : Nat) {x : Str} (hu : X.A.units + 1 < cLine) (hk : PE X e (tM X.K cl W mk)) (hN : X.N[i]? = some x := by rfl) (hv : Vis X.env.scope x := by first | exact Or.inl rfl | exact Or.inr (Or.inl rfl) | exact Or.inr (Or.inr rfl)) (hd : (x == ("__debug__" : Str)) = false := by decide) (hcd : (x == ("__classdict__" : Str)) = false := by decide) :
    PE X (.Compare e [.In] [.Name x vpos] pos) (tM X.K cl W (mLin false i mk)) := PE.imp (pe_cmp (pc_din hu hk (pe_var hN hv hd hcd)) rfl) fun σ H Q h => lin_of i false σ H Q h
theorem den_lnin (i : Nat) {x : Str} (hu : X.A.units + 1 < cLine) (hk : PE X e (tM X.K cl W mk)) (hN : X.N[i]? = some x := by rfl) (hv : Vis X.env.scope x := by first | exact Or.inl rfl | exact Or.inr (Or.inl rfl) | exact Or.inr (Or.inr rfl)) (hd : (x == ("__debug__" : Str)) = false := by decide) (hcd : (x == ("__classdict__" : Str)) = false := by decide) :
    PE X (.Compare e [.NotIn] [.Name x vpos] pos) (tM X.K cl W (mLin true i mk)) := PE.imp (pe_cmp (pc_dnotin hu hk (pe_var hN hv hd hcd)) rfl) fun σ H Q h => lin_of i true σ H Q h
theorem den_lint (i : Nat) {x : Str} (hu : X.A.units + 1 < cLine) (hk : PE X e (tM X.K cl W mk)) (hN : X.N[i]? = some x := by rfl) (hv : Vis X.env.scope x := by first | exact Or.inl rfl | exact Or.inr (Or.inl rfl) | exact Or.inr (Or.inr rfl)) (hd : (x == ("__debug__" : Str)) = false := by decide) (hcd : (x == ("__classdict__" : Str)) = false := by decide) :
    PT X (.Compare e [.In] [.Name x vpos] pos) (tMT X.K cl W (mBl (mLin false i mk))) := pt_ofC (pc_din hu hk (pe_var hN hv hd hcd)) (fun σ H Q h => lin_of i false σ H Q h) rfl
theorem den_lnint (i : Nat) {x : Str} (hu : X.A.units + 1 < cLine) (hk : PE X e (tM X.K cl W mk)) (hN : X.N[i]? = some x := by rfl) (hv : Vis X.env.scope x := by first | exact Or.inl rfl | exact Or.inr (Or.inl rfl) | exact Or.inr (Or.inr rfl)) (hd : (x == ("__debug__" : Str)) = false := by decide) (hcd : (x == ("__classdict__" : Str)) = false := by decide) :
    PT X (.Compare e [.NotIn] [.Name x vpos] pos) (tMT X.K cl W (mBl (mLin true i mk))) := pt_ofC (pc_dnotin hu hk (pe_var hN hv hd hcd)) (fun σ H Q h => lin_of i true σ H Q h) rfl
end
/-- d[key] -/
def lgetE (s : Option Slot) (d : Option D) : Option Rv := match dicOf s, d.bind keyD with
  | some kds, some k => (valD kds k).map Rv.val
  | _, _ => none
def mLget (i : Nat) (mk : M Ret) : M Ret := fun E => if (dicOf E[i]?).isSome = true then (mk E).bind fun r E1 => retO (lgetE E1[i]? (dat E1 r)) E1 else .no
noncomputable def lputE (i : Nat) (rk rv : Ret) (E : SEnv) : Option SEnv := match (dat E rk).bind keyD, take E rv with
  | some k, some (y, E1) => (match dicOf E1[i]? with
    | some kds => if Ok (kds.length < big) then some (E1.set i (putDic E1[i]? (putD kds k y))) else none
    | none => none)
  | _, _ => none
/-- d[key] = value -/
noncomputable def mLput (i : Nat) (mk mv : M Ret) : M Fl := fun E => (mv E).bind fun rv E1 => if (dicOf E1[i]?).isSome = true then (mk E1).bind fun rk E2 => (match lputE i rk rv E2 with
  | some E3 => .ok .nx E3
  | none => .no) else .no
/-- list(d.values()) -/
noncomputable def mVals (i : Nat) : M Ret := fun E => match dicOf E[i]? with
  | some kds => .ok (.own (.lst (kds.map (·.2)))) E
  | none => .no
section
variable {X : Cx} {cl : Cl} {W : WX} {e v : Expr} {pos vpos spos p apos cpos : Pos} {mk mv : M Ret}
theorem den_lget (i : Nat) {x : Str} (hu : X.A.units + 1 < cLine) (hk : PE X e (tM X.K cl W mk)) (hs : NoSl e := by first | exact fun _ _ => rfl | rfl | trivial) (hN : X.N[i]? = some x := by rfl) (hv : Vis X.env.scope x := by first | exact Or.inl rfl | exact Or.inr (Or.inl rfl) | exact Or.inr (Or.inr rfl)) (hd : (x == ("__debug__" : Str)) = false := by decide) (hcd : (x == ("__classdict__" : Str)) = false := by decide) :
    PE X (.Subscript (.Name x vpos) e pos) (tM X.K cl W (mLget i mk)) := PE.imp (pe_dget hu (pe_var hN hv hd hcd) hk hs) fun σ H Q h => by
  obtain ⟨C, E, T, R, h⟩ := h
  unfold mLget at h
  split at h
  case isFalse => exact h.elim
  rename_i hg
  obtain ⟨kds0, e0⟩ := Option.isSome_iff_exists.mp hg
  obtain ⟨F0, ρ0, RF0⟩ := _root_.id R
  obtain ⟨w, hw⟩ := dic_there RF0 e0
  obtain ⟨q, _, rfl, _⟩ := dic_at RF0 hw e0
  refine ⟨.ref q, hw, C, E, T, R, (Run.bind h).imp fun r E1 h1 v1 H1 R1 b1 => ?_⟩
  obtain ⟨rv, e1, pp⟩ := retO_run h1
  unfold lgetE at e1
  split at e1
  · rename_i kds k es ek
    obtain ⟨d, ed, ek⟩ := Option.bind_eq_some_iff.mp ek
    obtain ⟨y, ey, rfl⟩ := Option.map_eq_some_iff.mp e1
    obtain ⟨F, ρ, RF⟩ := R1
    obtain ⟨q', kvs, eq', z2, z3, _⟩ := dic_at RF hw es
    cases eq'
    have hk := key_dpt (RF.dat (k := T.length) (by simp) b1 ed) ek
    subst hk
    rcases prk_val (k := k) z3 with ⟨g1, g2⟩ | ⟨v, d', g1, g2, g3⟩
    · rw [g2] at ey; cases ey
    · rw [g2] at ey; cases ey
      exact ⟨q, v, rfl, by rw [← g1]; exact DGet.k z2, (gives (T' := [(kV k, r)]) RF pp).1 v g3⟩
  · cases e1
theorem den_lput (i : Nat) {x : Str} (hu : X.A.units + 1 < cLine) (hk : PE X e (tM X.K cl W mk)) (hval : PE X v (tM X.K cl W mv)) (hsw : swapsWith v (some (.Subscript (.Name x vpos) e spos)) pos.line X.env = pure false := by rfl)
    (hN : X.N[i]? = some x := by rfl) (hv : Vis X.env.scope x := by first | exact Or.inl rfl | exact Or.inr (Or.inl rfl) | exact Or.inr (Or.inr rfl)) (hd : (x == ("__debug__" : Str)) = false := by decide) (hcd : (x == ("__classdict__" : Str)) = false := by decide) :
    PS X (.Assign [.Subscript (.Name x vpos) e spos] v pos) (tMS X.K cl W (mLput i mk mv)) := PS.imp (ps_dput hu (pe_var hN hv hd hcd) hk hval hsw) fun D σ H h => by
  obtain ⟨C, E, T, R, h⟩ := h
  refine ⟨C, E, T, R, (RunS.bind h).run fun rv E1 h1 v1 H1 R1 b1 => ?_⟩
  split at h1
  case isFalse => exact h1.elim
  rename_i hg
  obtain ⟨kds0, e0⟩ := Option.isSome_iff_exists.mp hg
  obtain ⟨F0, ρ0, RF0⟩ := _root_.id R1
  obtain ⟨w, hw⟩ := dic_there RF0 e0
  obtain ⟨q, _, rfl, _⟩ := dic_at RF0 hw e0
  refine ⟨.ref q, hw, C, E1, _, R1, ((RunS.bind h1).run (σ := σ) fun rk E2 h2 => h2).go fun rk E2 h2 v2 H2 R2 b2 => ?_⟩
  split at h2
  case h_2 => exact h2.elim
  rename_i E3 e3
  unfold lputE at e3
  split at e3
  case h_2 => cases e3
  rename_i k y E4 ek et
  split at e3
  case h_2 => cases e3
  rename_i kds es
  split at e3
  case isFalse => cases e3
  rename_i hl
  cases e3
  obtain ⟨d, ed, ek⟩ := Option.bind_eq_some_iff.mp ek
  obtain ⟨F, ρ, RF⟩ := R2
  have hk := key_dpt (RF.dat (k := T.length + 1) (v := v2) (r := rk) (by simp) b2 ed) ek
  subst hk
  obtain ⟨F', f', RT, hd⟩ := RelF.take (T := T) (T2 := [(kV k, rk)]) (by simpa using RF) b1 et
  obtain ⟨q', kvs, eq', z2, z3, put⟩ := dic_at RT hw es
  cases eq'
  obtain ⟨ρ2, RP⟩ := put _ _ (prk_put hd z3)
  exact ⟨q, _, rfl, DPut.k z2 (by rw [prk_len z3]; exact big_lt (Nat.le_of_lt hl)), h2 σ _ RP.drop.rel⟩
theorem paired_snd {K : PySem.W.Frag} {F : Hp} {κ : Type} {kvs : List (κ × V)} {kds : List (κ × D)} (h : Paired (fun (p : κ × V) (q : κ × D) => p.1 = q.1 ∧ Dp K F p.2 q.2) kvs kds) : DpAll K F (kvs.map (·.2)) (kds.map (·.2)) := by
  induction h with
  | nil => exact .nil
  | cons a b ih => exact .cons a.2 ih
theorem den_vals (i : Nat) {x : Str} (hc : X.calm = true) (hg : Gl X "list") (hm : X.mg "list" = none)
    (hN : X.N[i]? = some x := by rfl) (hv : Vis X.env.scope x := by first | exact Or.inl rfl | exact Or.inr (Or.inl rfl) | exact Or.inr (Or.inr rfl)) (hd : (x == ("__debug__" : Str)) = false := by decide) (hcd : (x == ("__classdict__" : Str)) = false := by decide)
    (hbase : attributeBase (.Name x vpos) "values" X.env (eval (.Name x vpos) X.env) = eval (.Name x vpos) X.env := by rfl) (hline : (apos.endLine == cpos.line) = true := by rfl)
    (hs : starEach [.Call (.Attribute (.Name x vpos) "values" apos) [] [] cpos] X.env = (false, eval (.Call (.Attribute (.Name x vpos) "values" apos) [] [] cpos) X.env) :: starEach [] X.env := by rfl) :
    PE X (.Call (.Name "list" p) [.Call (.Attribute (.Name x vpos) "values" apos) [] [] cpos] [] pos) (tM X.K cl W (mVals i)) := PE.imp (LV.pe_listVals hc (pe_var hN hv hd hcd) hg hm PyProof.Rows.boot_list hbase hline hs) fun σ H Q h => by
  obtain ⟨C, E, T, ⟨F, ρ, R⟩, h⟩ := h
  unfold mVals at h
  split at h
  case h_2 => exact h.elim
  rename_i kds es
  obtain ⟨w, hw⟩ := dic_there R es
  obtain ⟨q, kvs, rfl, z2, z3, _⟩ := dic_at R hw es
  refine ⟨.ref q, hw, q, kvs, rfl, z2, fun a ha => ?_⟩
  exact h _ _ (R.push_own (o := .lst (kds.map (·.2))) ha (ho := .lst (kvs.map (·.2))) ⟨_, rfl, paired_snd z3⟩).rel trivial
end
section
variable (E : SEnv)
@[simp] theorem e_lin (neg : Bool) (i : Nat) (mk : M Ret) : mLin neg i mk E = (mk E).bind fun r E1 => retO (linE neg E1[i]? (dat E1 r)) E1 := rfl
@[simp] theorem e_lget (i : Nat) (mk : M Ret) : mLget i mk E = if (dicOf E[i]?).isSome = true then (mk E).bind fun r E1 => retO (lgetE E1[i]? (dat E1 r)) E1 else .no := rfl
@[simp] theorem e_lput (i : Nat) (mk mv : M Ret) : mLput i mk mv E = (mv E).bind fun rv E1 => if (dicOf E1[i]?).isSome = true then (mk E1).bind fun rk E2 => (match lputE i rk rv E2 with
  | some E3 => .ok .nx E3
  | none => .no) else .no := rfl
@[simp] theorem e_vals (i : Nat) : mVals i E = match dicOf E[i]? with
  | some kds => .ok (.own (.lst (kds.map (·.2)))) E
  | none => .no := rfl
@[simp] theorem e_act (φ : Phi) (i : Nat) (ma : M Ret) : mAct φ i ma E = match (E[i]? : Option MP.Slot) with
  | some (.fn _) => (ma E).bind fun r E1 => (match dat E1 r, (E1[i]? : Option MP.Slot) with
    | some d, some (.fn st) => (match φ st d with
      | some (d', st') => .ok (.val d') (E1.set i (.fn st'))
      | none => .no)
    | _, _ => .no)
  | _ => .no := rfl
@[simp] theorem dicOf_own (kds : List (Key × D)) : dicOf (some (.own (.dic kds))) = some kds := rfl
@[simp] theorem dicOf_lnt (kds : List (Key × D)) : dicOf (some (.lnt (.dic kds))) = some kds := rfl
@[simp] theorem putDic_own (kds kds' : List (Key × D)) : putDic (some (.own (.dic kds))) kds' = .own (.dic kds') := rfl
@[simp] theorem putDic_lnt (kds kds' : List (Key × D)) : putDic (some (.lnt (.dic kds))) kds' = .lnt (.dic kds') := rfl
end
end MP

open PySem PySem.Spec L2
/-- as okX, with the def's code told -/
theorem L2.Fun.okC {P : Program} {w : World} {K : PySem.W.Frag} {mg : Str → Option Value} {base : Heap} {x qual : Str} {st : Stmt} {f : Addr} {fd : FuncData} {N ps : List Str} {k : Nat} {sp : Sp} (F : Fun K x qual st f fd) (S : FnScope N ps (defScope st)) (len : ∀ vs H Q E, sp vs H Q E → vs.length = ps.length)
    (hbody : ∀ (cdv : Value) (A : Around) (outer : List Env) (s : Shared) (H : Hp) (vs : List V) (Q : VK) (E : XK), fd.code = cdv → Room k (A.deeper (PyProof.Rows.envOfC qual (defScope st) s.heap.objs.size f cdv)) → sp vs H Q E →
      ∃ t, PSs (cxOf (L2.CX P w) P w K mg base N qual (defScope st) f cdv A outer s H E) (defBody st) t ∧ t { nx := fun _ H' => Q .non H', rt := Q } (start N vs) H) : FnOk P w K mg base (L2.CX P w) (k + 1) f fd ps sp := by
  obtain ⟨oc, od, kV, doc, pm, an, cdv, ct, osl, rfl, lk, hcd⟩ := F.ex
  exact fn_of lk hcd S len fun A outer s H vs Q E hr hsp => hbody cdv A outer s H vs Q E rfl hr hsp
namespace MP
section
variable {P : Program} {w : World} {K : PySem.W.Frag} {mg : Str → Option Value} {base : Heap} {cl : Cl}
/-- a def that makes a lambda: its code is known -/
theorem den_defC {x qual : Str} {st : Stmt} {f : Addr} {fd : FuncData} {N ps : List Str} {k : Nat} {m : M Fl} (F : Fun K x qual st f fd) (S : FnScope N ps (defScope st))
    (hbody : ∀ (cdv : Value) (A : Around) (outer : List Env) (s : Shared) (H : Hp) (E : XK), fd.code = cdv → Room k (A.deeper (PyProof.Rows.envOfC qual (defScope st) s.heap.objs.size f cdv)) →
      PSs (cxOf (L2.CX P w) P w K mg base N qual (defScope st) f cdv A outer s H E) (defBody st) (tMS K cl (fun c d _ H => E c d H) m)) : FnOk P w K mg base (L2.CX P w) (k + 1) f fd ps (spM K cl (runDef ps.length N.length m)) := by
  refine F.okC S (fun vs H Q E h => spM_len h) (fun cdv A outer s H vs Q E hcd hr h => ⟨_, hbody cdv A outer s H E hcd hr, ?_⟩)
  exact def_run S h
end
/-! ### the end of a law with tables -/
theorem tabs_start {cs : List (Addr × Addr)} {T : List (Addr × Str)} {H : Hp} (hT : T.map (·.1) = cs.map (·.2)) (h : ∀ p ∈ cs, H p.2 = some (.tbl #[])) : LamX.Tabs T H := fun p hp => by
  have : p.1 ∈ cs.map (·.2) := by rw [← hT]; exact List.mem_map.mpr ⟨p, hp, rfl⟩
  obtain ⟨q, hq, e⟩ := List.mem_map.mp this
  exact LamX.TabS.nil (by rw [← e]; exact h q hq)
section
variable {l : PySem.W.OpenLaw} {w : World} {K : PySem.W.Frag} {CX : CXT} {k n : Nat} {x : Str} {mg : Str → Option Value} {fa : Addr} {h : Heap} {cs : List (Addr × Addr)} {T : List (Addr × Str)} {fn : List D → FR}
theorem law_at (h9 : ∀ q ∈ cs, PySem.W.CodeHd h q.1 q.2 ∧ h.get? q.2 = some (PySem.W.tabObj #[])) (nT : ∀ p ∈ cs, K.lookup p.2 = none) (hT : T.map (·.1) = cs.map (·.2)) (htrue : ∀ ns : List Int, ns.length ≤ n → fn [.list (ns.map PyData.int)] = .ok (.val (.bool true)))
    (hex : ∃ fd : FuncData, (∀ (s : Shared) (v : Value), BindsTo s fd ⟨[v], []⟩ [(x, v)]) ∧ ∀ base : Heap, K.In base → base.Ns mainGlobals mg → (∀ p ∈ cs, LamX.TabB base mg p.1 p.2) → FnOk l.prog w K mg base CX k fa fd [x] (spOk K T fn)) : LamX.LawAtS l w K CX k n x mg fa h := by
  obtain ⟨fd, h1, h2⟩ := hex
  exact ⟨fd, cs, _, fun p hp => (h9 p hp).2, nT, fun p hp => (h9 p hp).1, h1, fun H a ns hl _ hH hS => end_ok (tabs_start hT hH) hS (htrue ns hl), h2⟩
theorem law_atM {cl : Cl} (h9 : ∀ q ∈ cs, PySem.W.CodeHd h q.1 q.2 ∧ h.get? q.2 = some (PySem.W.tabObj #[])) (nT : ∀ p ∈ cs, K.lookup p.2 = none) (hT : cl.T.map (·.1) = cs.map (·.2)) (htrue : ∀ ns : List Int, ns.length ≤ n → fn [.list (ns.map PyData.int)] = .ok (.val (.bool true)))
    (hex : ∃ fd : FuncData, (∀ (s : Shared) (v : Value), BindsTo s fd ⟨[v], []⟩ [(x, v)]) ∧ ∀ base : Heap, K.In base → base.Ns mainGlobals mg → (∀ p ∈ cs, LamX.TabB base mg p.1 p.2) → FnOk l.prog w K mg base CX k fa fd [x] (spM K cl fn)) : LamX.LawAtS l w K CX k n x mg fa h := by
  obtain ⟨fd, h1, h2⟩ := hex
  exact ⟨fd, cs, _, fun p hp => (h9 p hp).2, nT, fun p hp => (h9 p hp).1, h1, fun H a ns hl _ hH hS => end_sp (tabs_start hT hH) hS (htrue ns hl), h2⟩
end
end MP

open PySem PySem.Spec L2
namespace MP
/-! ### sorted(a list of pairs of numbers) -/
def pd (p : Int × Int) : D := .tuple [.int p.1, .int p.2]
def pdOf : D → Option (Int × Int)
  | .tuple [.int a, .int b] => some (a, b)
  | _ => none
def prsOf : List D → Option (List (Int × Int))
  | [] => some []
  | d :: ds => match pdOf d, prsOf ds with
    | some p, some ps => some (p :: ps)
    | _, _ => none
def leP (p q : Int × Int) : Bool := !SrtO.lexB q p
def sortP (ps : List (Int × Int)) : List (Int × Int) := ps.mergeSort leP
def sortedPF : List D → Option Rv
  | [.list ds] => (prsOf ds).bind fun ps => some (.own (.lst ((sortP ps).map pd)))
  | _ => none
@[simp] theorem prsOf_map (ps : List (Int × Int)) : prsOf (ps.map pd) = some ps := by
  induction ps with
  | nil => rfl
  | cons p ps ih => simp [prsOf, pd, pdOf, ih]
theorem pdOf_eq {d : D} {p : Int × Int} (h : pdOf d = some p) : d = pd p := by
  unfold pdOf at h
  split at h
  · cases h; rfl
  · cases h
theorem prsOf_eq : ∀ {ds : List D} {ps : List (Int × Int)}, prsOf ds = some ps → ds = ps.map pd
  | [], ps, h => by cases h; rfl
  | d :: ds, ps, h => by
    unfold prsOf at h
    split at h
    · rename_i p qs h1 h2
      cases h
      rw [List.map_cons, pdOf_eq h1, prsOf_eq h2]
    · cases h
@[simp] theorem f_sortedP (ps : List (Int × Int)) : sortedPF [.list (ps.map pd)] = some (.own (.lst ((sortP ps).map pd))) := by simp [sortedPF]
theorem leP_tot (p q : Int × Int) : (leP p q || leP q p) = true := by
  unfold leP
  rcases h1 : SrtO.lexB q p with _ | _
  · rfl
  · rcases h2 : SrtO.lexB p q with _ | _
    · rfl
    · have a := SrtO.lexB_iff.mp h1
      have b := SrtO.lexB_iff.mp h2
      omega
theorem leP_tr (p q r : Int × Int) (h1 : leP p q = true) (h2 : leP q r = true) : leP p r = true := by
  unfold leP at *
  have a := SrtO.lexB_no.mp (by simpa using h1)
  have b := SrtO.lexB_no.mp (by simpa using h2)
  have c : SrtO.lexB r p = false := SrtO.lexB_no.mpr (by omega)
  rw [c]; rfl
theorem leP_asym {p q : Int × Int} (h1 : leP p q = true) (h2 : leP q p = true) : p = q := by
  unfold leP at *
  have a := SrtO.lexB_no.mp (by simpa using h1)
  have b := SrtO.lexB_no.mp (by simpa using h2)
  exact Prod.ext (by omega) (by omega)
theorem sortP_perm (ps : List (Int × Int)) : (sortP ps).Perm ps := List.mergeSort_perm ps leP
theorem sortP_sorted (ps : List (Int × Int)) : (sortP ps).Pairwise fun p q => leP p q = true := List.pairwise_mergeSort leP_tr leP_tot ps
theorem sortP_uniq {ps qs : List (Int × Int)} (h : qs.Perm ps) (hs : qs.Pairwise fun p q => leP p q = true) : qs = sortP ps :=
  List.Perm.eq_of_pairwise (fun a b _ _ h1 h2 => leP_asym h1 h2) hs (sortP_sorted ps) (h.trans (sortP_perm ps).symm)
/-- the pair at a place -/
def kpr (H : Hp) : V → Int × Int
  | .ref t => match H t with
    | some (.tup [.int a, .int b]) => (a, b)
    | _ => (0, 0)
  | _ => (0, 0)
section
variable {K : PySem.W.Frag} {F H : Hp}
theorem pd_at {v : V} {p : Int × Int} (h : Dp K F v (pd p)) : ∃ t, v = .ref t ∧ F t = some (.tup [.int p.1, .int p.2]) := by
  unfold pd at h
  cases h with
  | tup h hs =>
    cases hs with
    | cons h1 h2 =>
      cases h2 with
      | cons h3 h4 =>
        cases h4
        cases h1
        cases h3
        exact ⟨_, rfl, h⟩
theorem pds_at : ∀ {vs : List V} {ps : List (Int × Int)}, DpAll K F vs (ps.map pd) → Same F H → vs.map (kpr H) = ps ∧ ∀ v ∈ vs, Dp K F v (pd (kpr H v)) ∧ ∃ t, v = .ref t ∧ H t = some (.tup [.int (kpr H v).1, .int (kpr H v).2])
  | _, [], .nil, _ => ⟨rfl, fun v h => by cases h⟩
  | _, p :: ps, .cons h1 h2, e => by
    obtain ⟨t, rfl, ht⟩ := pd_at h1
    obtain ⟨i1, i2⟩ := pds_at h2 e
    have hH : H t = some (.tup [.int p.1, .int p.2]) := (dp_mono e h1 |> pd_at).elim fun t' h => by obtain ⟨h3, h4⟩ := h; cases h3; exact h4
    have hk : kpr H (.ref t) = p := by simp [kpr, hH]
    refine ⟨by rw [List.map_cons, hk, i1], fun v hv => ?_⟩
    rcases List.mem_cons.mp hv with rfl | hv
    · rw [hk]; exact ⟨h1, t, rfl, hH⟩
    · exact i2 v hv
theorem dps_kpr : ∀ {vs : List V}, (∀ v ∈ vs, Dp K F v (pd (kpr H v))) → DpAll K F vs ((vs.map (kpr H)).map pd)
  | [], _ => .nil
  | v :: vs, h => .cons (h v List.mem_cons_self) (dps_kpr fun x hx => h x (List.mem_cons_of_mem _ hx))
theorem sortedP_ok {K : PySem.W.Frag} : OpN K (rSortedPO K) sortedPF := fun F H xs as rv Q hs hd e g => by
  unfold sortedPF at e
  split at e
  · obtain ⟨ps, h1, h2⟩ := Option.bind_eq_some_iff.mp e
    cases h2
    obtain ⟨v, rfl, h⟩ := dpts1 hd
    obtain ⟨a, us, rfl, h3, h4⟩ := dpt_lst hs h
    rw [prsOf_eq h1] at h4
    obtain ⟨k1, k2⟩ := pds_at h4 hs
    refine ⟨a, us, kpr H, rfl, h3, fun x hx => (k2 x hx).2, fun ys p hys hst hp => ?_⟩
    have hperm : (ys.map (kpr H)).Perm ps := by rw [← k1]; exact hst.perm.map _
    have hsrt : (ys.map (kpr H)).Pairwise fun p q => leP p q = true := List.pairwise_map.mpr (hys.imp fun {x y} h => by unfold leP; rw [show SrtO.lexB (kpr H y) (kpr H x) = false from h]; rfl)
    have hq := sortP_uniq hperm hsrt
    have hdp : DpAll K F ys ((ys.map (kpr H)).map pd) := dps_kpr fun v hv => (k2 v (hst.perm.mem_iff.mp hv)).1
    rw [hq] at hdp
    exact g p _ hp ⟨_, rfl, hdp⟩
  · cases e
end
end MP

/-! ### sorted(a list of tuples of numbers) -/
namespace SrtO
open PySem PyProof.Rows Srt
def lexL : List Int → List Int → Bool
  | [], [] => false
  | [], _ :: _ => true
  | _ :: _, [] => false
  | x :: xs, y :: ys => if x = y then lexL xs ys else decide (x < y)
theorem lexL_asym : ∀ xs ys : List Int, lexL xs ys = true → lexL ys xs = false
  | [], [], h => by cases h
  | [], _ :: _, _ => rfl
  | _ :: _, [], h => by cases h
  | x :: xs, y :: ys, h => by
    unfold lexL at h ⊢
    by_cases e : x = y
    · rw [if_pos e] at h
      rw [if_pos e.symm]
      exact lexL_asym xs ys h
    · rw [if_neg e] at h
      rw [if_neg fun z => e z.symm]
      have := of_decide_eq_true h
      exact decide_eq_false (by omega)
theorem lexL_tr : ∀ xs ys zs : List Int, lexL xs ys = false → lexL ys zs = false → lexL xs zs = false
  | [], [], _, _, h => h
  | [], _ :: _, _, h, _ => by cases h
  | _ :: _, _, [], _, _ => rfl
  | _ :: _, [], _ :: _, _, h => by cases h
  | x :: xs, y :: ys, z :: zs, h1, h2 => by
    unfold lexL at h1 h2 ⊢
    by_cases e1 : x = y
    · rw [if_pos e1] at h1
      by_cases e2 : y = z
      · rw [if_pos e2] at h2
        rw [if_pos (e1.trans e2)]
        exact lexL_tr xs ys zs h1 h2
      · rw [if_neg e2] at h2
        rw [if_neg (by rw [e1]; exact e2), e1]
        exact h2
    · rw [if_neg e1] at h1
      have a := of_decide_eq_false h1
      by_cases e2 : y = z
      · rw [← e2, if_neg e1]; exact h1
      · rw [if_neg e2] at h2
        have b := of_decide_eq_false h2
        rw [if_neg (by omega)]
        exact decide_eq_false (by omega)
theorem lexL_anti : ∀ xs ys : List Int, lexL xs ys = false → lexL ys xs = false → xs = ys
  | [], [], _, _ => rfl
  | [], _ :: _, h, _ => by cases h
  | _ :: _, [], _, h => by cases h
  | x :: xs, y :: ys, h1, h2 => by
    unfold lexL at h1 h2
    by_cases e : x = y
    · rw [if_pos e] at h1
      rw [if_pos e.symm] at h2
      rw [e, lexL_anti xs ys h1 h2]
    · rw [if_neg e] at h1
      rw [if_neg fun z => e z.symm] at h2
      have a := of_decide_eq_false h1
      have b := of_decide_eq_false h2
      omega
theorem swo_lexL {α : Type} (k : α → List Int) : Swo fun v u => lexL (k v) (k u) := ⟨fun x y h => lexL_asym _ _ h, fun x y z h1 h2 => lexL_tr _ _ _ h2 h1⟩
def IsTupI (h : Heap) (v : Value) (is : List Int) : Prop := ∃ a o its n, v = .ref a ∧ h.get? a = some o ∧ o.cls = .type "tuple" ∧ o.data = .seq its n ∧ L2.Vals (is.map L2.V.int) its.toList
theorem IsTupI.keeps {h h' : Heap} {v : Value} {is : List Int} (p : IsTupI h v is) (k : ∀ b o, h.get? b = some o → o.cls = .type "tuple" → h'.get? b = some o) : IsTupI h' v is := by
  obtain ⟨a, o, its, n, e, ho, hc, hd, r⟩ := p
  exact ⟨a, o, its, n, e, k _ _ ho hc, hc, hd, r⟩
section
variable {prog : Program} {w : World} {A : Around} {s : Shared}
theorem lex_go {Q : Bool → Shared → Prop} {fin : Bool} : ∀ (xs ys : List Int) (us vs : List Value) (i : Nat), L2.Vals (xs.map L2.V.int) us → L2.Vals (ys.map L2.V.int) vs → fin = decide (xs.length < ys.length) → Q (lexL xs ys) s → PySem.W.KatLex prog w A true fin Q (us.zip vs) i s
  | [], [], _, _, i, .nil, .nil, hf, h => by subst hf; exact PySem.W.kat_nil h
  | [], y :: ys, _, _, i, .nil, .cons _ _, hf, h => by subst hf; exact PySem.W.kat_nil h
  | x :: xs, [], _, _, i, .cons _ _, .nil, hf, h => by subst hf; exact PySem.W.kat_nil h
  | x :: xs, y :: ys, _, _, i, .cons r1 t1, .cons r2 t2, hf, h => by
    obtain ⟨k1, rfl⟩ := r1
    obtain ⟨k2, rfl⟩ := r2
    rw [List.zip_cons_cons]
    refine PySem.W.kat_cons (SeqAt.EqAt.int_int x k1 y k2 prog w _ _ ?_)
    refine PySem.W.kat_go (fun e1 => ?_) (fun e1 => ?_)
    · have ex : x = y := by simpa using e1
      refine PySem.W.kat_yes (lex_go xs ys _ _ (i + 1) t1 t2 (by rw [hf, List.length_cons, List.length_cons]; exact decide_eq_decide.mpr (by omega)) ?_)
      unfold lexL at h
      rw [if_pos ex] at h
      exact h
    · have ex : ¬ x = y := by simpa using e1
      unfold lexL at h
      rw [if_neg ex] at h
      cases i with
      | zero => exact PySem.W.kat_no (oneLt_int h)
      | succ i => exact PySem.W.kat_no (PySem.W.kat_one _ _ (PyProof.Rows.lt_int h))
theorem tup_cmp {vs : List Value} {k : Value → List Int} (hp : ∀ v ∈ vs, IsTupI s.heap v (k v)) : Cmp prog w A s (tuples' true) (fun p => p.1 ∈ vs) (lt2 fun v u => lexL (k v) (k u)) := by
  intro p q hm hm'
  obtain ⟨a, o, its, n, e, ho, hc, hd, r⟩ := hp _ hm
  obtain ⟨a', o', its', n', e', ho', hc', hd', r'⟩ := hp _ hm'
  show wpAny (model prog w) A (keyLt' (tuples' true) p.1 q.1) (fun r s' => s' = s ∧ r = lexL (k p.1) (k q.1)) (fun _ _ => False) s
  generalize k p.1 = xs at r ⊢
  generalize k q.1 = ys at r' ⊢
  rw [e, e']
  refine PySem.W.kat_lt ho hd ho' hd' ?_
  have l1 := r.length
  have l2 := r'.length
  rw [List.length_map] at l1 l2
  exact lex_go xs ys _ _ 0 r r' (by rw [l1, l2, Array.length_toList, Array.length_toList]) ⟨rfl, rfl⟩
theorem firsts_T {h : Heap} {k : Value → List Int} : ∀ {vs : List Value}, (∀ v ∈ vs, IsTupI h v (k v) ∧ k v ≠ []) → ∃ fs : List Value, PySem.W.KatTups h vs fs ∧ fs.length = vs.length ∧ ∀ f ∈ fs, ∃ x t, f = Value.int x t
  | [], _ => ⟨[], PySem.W.KatTups.nil, rfl, fun _ hm => by simp at hm⟩
  | v :: vs, hp => by
    obtain ⟨fs, h1, h2, h3⟩ := firsts_T (vs := vs) fun v' hm => hp v' (List.mem_cons_of_mem _ hm)
    obtain ⟨⟨a, o, its, n, rfl, ho, hc, hd, r⟩, hne⟩ := hp v List.mem_cons_self
    generalize k (.ref a) = is at r hne
    cases is with
    | nil => exact absurd rfl hne
    | cons x is =>
      generalize hits : its.toList = us at r
      cases r with
      | cons r t =>
        obtain ⟨tk, rfl⟩ := r
        refine ⟨.int x tk :: fs, PySem.W.KatTups.cons ho hc hd ?_ h1, by rw [List.length_cons, List.length_cons, h2], fun f hf => ?_⟩
        · rw [← Array.getElem?_toList, hits]; rfl
        · rcases List.mem_cons.mp hf with rfl | hf
          · exact ⟨x, tk, rfl⟩
          · exact h3 f hf
theorem tups_sortableO {a : Addr} {vs : List Value} {k : Value → List Int} (h0 : 0 < vs.length) (hp : ∀ v ∈ vs, IsTupI s.heap v (k v) ∧ k v ≠ []) (ha : ∀ o, s.heap.get? a = some o → o.cls ≠ .type "tuple") : SortableO prog w A s a vs fun v u => lexL (k v) (k u) := by
  intro h' keep
  have hp' : ∀ v ∈ vs, IsTupI h' v (k v) ∧ k v ≠ [] := fun v hm => ⟨(hp v hm).1.keeps fun b o e c => keep b o (fun z => by subst z; exact ha o e c) e, (hp v hm).2⟩
  obtain ⟨fs, h1, h2, h3⟩ := firsts_T hp'
  refine ⟨tuples' true, fun Q E hq => ?_, tup_cmp fun v hv => (hp' v hv).1⟩
  refine PySem.W.kat_kind (T := .type "int") h1 (by omega) (fun f hm => ?_) (by rfl) ?_
  · obtain ⟨x, t, rfl⟩ := h3 f hm
    exact PySem.W.Looks.now
  · have e : (Value.type "int" != Value.type "tuple") = true := by first | decide +kernel | rfl | decide
    rw [e]
    exact hq
variable {E : Value → Shared → Prop}
theorem sorted_tupsO {l : Addr} {vs : List Value} {k : Value → List Int} {Q : Value → Shared → Prop} (hl : s.heap.IsList l vs.toArray) (hz : vs.length ≤ sizeLine) (hp : ∀ v ∈ vs, IsTupI s.heap v (k v) ∧ k v ≠ [])
    (h : ∀ (h' : Heap) (d : Addr) (out : List Value), Srtd (fun v u => lexL (k v) (k u)) out → Stb (fun v u => lexL (k v) (k u)) out vs → (∀ b o, s.heap.get? b = some o → h'.get? b = some o) → s.heap.objs.size ≤ d → (∃ n, h'.get? d = some (seqObj "list" out.toArray n)) → Q (.ref d) { s with heap := h' }) :
    wpAny (model prog w) A (call (.builtin "sorted") [.ref l]) Q E s := by
  refine sorted_ord (swo_lexL k) hl hz (fun h2 h₁ a ha kk => ?_) fun out hs hb => ?_
  · refine tups_sortableO (s := { s with heap := h₁ }) (by omega) (fun v hm => ⟨(hp v hm).1.keeps fun b o e _ => (kk b o e).2, (hp v hm).2⟩) fun o e => ?_
    have e' : some o = some (seqObj "list" vs.toArray 0) := e.symm.trans ha
    cases e'
    intro c
    exact absurd (Value.type.inj c) (by decide)
  · exact h _ _ out hs hb (fun b o e => sortedAll_old e) (Nat.le_succ _) (sortedAll_at s.heap vs out.toArray)
end
end SrtO
namespace L2
open PySem PySem.Spec PyProof.Rows SrtO
abbrev ltT (k : V → List Int) (x y : V) : Bool := SrtO.lexL (k x) (k y)
def rSortedTO (K : PySem.W.Frag) : List V → Hp → VK → Prop := fun vs H Q => ∃ (a : Addr) (xs : List V) (k : V → List Int), vs = [V.ref a] ∧ SqL K H a xs ∧ (∀ x ∈ xs, k x ≠ [] ∧ ∃ t, x = V.ref t ∧ H t = some (.tup ((k x).map V.int))) ∧
  ∀ ys p, SrtO.Srtd (ltT k) ys → SrtO.Stb (ltT k) ys xs → H p = none → Q (.ref p) (upd H p (.lst ys))
section
variable {X : Cx}
theorem cr_sortedTO : CallR X (.builtin "sorted") (rSortedTO X.K) := by
  intro pins s σ H vs us Q I r h
  obtain ⟨a, xs, k, rfl, hs, hx, q⟩ := h
  obtain ⟨its, rv, hl, hz⟩ := I.list hs
  obtain ⟨u, rfl, ru⟩ := vals1 r
  obtain rfl : u = Value.ref a := ru
  obtain ⟨e1, e2⟩ := refs_back rv fun x m => by
    obtain ⟨_, t, e, _⟩ := hx x m
    exact ⟨t, e⟩
  refine SrtO.sorted_tupsO (k := fun u => k (backV u)) hl.isList (by rw [← rv.length]; exact hz) (fun v hv => ?_) fun h' d out h1 h2 kp hd hn => ?_
  · obtain ⟨t, rfl⟩ := e2 v hv
    have hm : V.ref t ∈ xs := by rw [e1]; exact List.mem_map.mpr ⟨_, hv, rfl⟩
    obtain ⟨hne, t', e, ht⟩ := hx _ hm
    cases e
    obtain ⟨_, its2, r2, o, ho, hc, n, hd⟩ := I.hok _ _ ht
    exact ⟨⟨t, o, its2.toArray, n, rfl, ho, hc, hd, r2⟩, hne⟩
  · have h3 : ∀ u ∈ out, ∃ a, u = Value.ref a := fun u hu => e2 u (h2.perm.mem_iff.mp hu)
    obtain ⟨n, hn⟩ := hn
    have hb : SrtO.Stb (ltT k) (out.map backV) xs := by
      rw [e1]
      exact SrtO.Stb.map (SrtO.swo_lexL k) backV h2
    refine ⟨.ref d, upd H d (.lst (out.map backV)), I.laid (t' := s.toks) kp hd ⟨?_, out, n, vals_back h3, hn⟩, rfl, q _ d (SrtO.srtd_map h1) hb (I.hok.fresh hd)⟩
    rw [hb.len]
    exact hz
end
end L2
open PySem PySem.Spec L2
namespace MP
def td (is : List Int) : D := .tuple (is.map PyData.int)
def tdOf : D → Option (List Int)
  | .tuple ds => (intsOf ds).bind fun is => if is = [] then none else some is
  | _ => none
def tdsOf : List D → Option (List (List Int))
  | [] => some []
  | d :: ds => match tdOf d, tdsOf ds with
    | some p, some ps => some (p :: ps)
    | _, _ => none
def leL (p q : List Int) : Bool := !SrtO.lexL q p
def sortT (ps : List (List Int)) : List (List Int) := ps.mergeSort leL
def sortedTF : List D → Option Rv
  | [.list ds] => (tdsOf ds).bind fun ps => some (.own (.lst ((sortT ps).map td)))
  | _ => none
theorem tdsOf_map {ps : List (List Int)} (h : ∀ p ∈ ps, p ≠ []) : tdsOf (ps.map td) = some ps := by
  induction ps with
  | nil => rfl
  | cons p ps ih =>
    have hp := h p List.mem_cons_self
    have i2 := ih fun q hq => h q (List.mem_cons_of_mem _ hq)
    simp [tdsOf, td, tdOf, hp]
    have : List.map td ps = List.map (fun is => PyData.tuple (is.map PyData.int)) ps := rfl
    rw [show (List.map td ps) = ps.map td from rfl, i2]
theorem tdOf_eq {d : D} {p : List Int} (h : tdOf d = some p) : d = td p ∧ p ≠ [] := by
  unfold tdOf at h
  split at h
  · obtain ⟨is, h1, h2⟩ := Option.bind_eq_some_iff.mp h
    split at h2
    · cases h2
    · rename_i hne
      cases h2
      exact ⟨by rw [intsOf_eq h1]; rfl, hne⟩
  · cases h
theorem tdsOf_eq : ∀ {ds : List D} {ps : List (List Int)}, tdsOf ds = some ps → ds = ps.map td ∧ ∀ p ∈ ps, p ≠ []
  | [], ps, h => by cases h; exact ⟨rfl, fun p hp => by cases hp⟩
  | d :: ds, ps, h => by
    unfold tdsOf at h
    split at h
    · rename_i p qs h1 h2
      cases h
      obtain ⟨e1, e2⟩ := tdOf_eq h1
      obtain ⟨e3, e4⟩ := tdsOf_eq h2
      refine ⟨by rw [List.map_cons, ← e1, ← e3], fun q hq => ?_⟩
      rcases List.mem_cons.mp hq with rfl | hq
      · exact e2
      · exact e4 q hq
    · cases h
theorem f_sortedT2 {ps : List (List Int)} (h : ∀ p ∈ ps, p ≠ []) : sortedTF [.list (ps.map td)] = some (.own (.lst ((sortT ps).map td))) := by
  show (tdsOf (ps.map td)).bind _ = _
  rw [tdsOf_map h]; rfl
theorem leL_tot (p q : List Int) : (leL p q || leL q p) = true := by
  unfold leL
  rcases h1 : SrtO.lexL q p with _ | _
  · rfl
  · rw [SrtO.lexL_asym _ _ h1]; rfl
theorem leL_tr (p q r : List Int) (h1 : leL p q = true) (h2 : leL q r = true) : leL p r = true := by
  unfold leL at *
  rw [SrtO.lexL_tr r q p (by simpa using h2) (by simpa using h1)]; rfl
theorem leL_asym {p q : List Int} (h1 : leL p q = true) (h2 : leL q p = true) : p = q := by
  unfold leL at *
  exact SrtO.lexL_anti p q (by simpa using h2) (by simpa using h1)
theorem sortT_perm (ps : List (List Int)) : (sortT ps).Perm ps := List.mergeSort_perm ps leL
theorem sortT_sorted (ps : List (List Int)) : (sortT ps).Pairwise fun p q => leL p q = true := List.pairwise_mergeSort leL_tr leL_tot ps
theorem sortT_uniq {ps qs : List (List Int)} (h : qs.Perm ps) (hs : qs.Pairwise fun p q => leL p q = true) : qs = sortT ps :=
  List.Perm.eq_of_pairwise (fun a b _ _ h1 h2 => leL_asym h1 h2) hs (sortT_sorted ps) (h.trans (sortT_perm ps).symm)
theorem sortT_same {ps qs : List (List Int)} (h : qs.Perm ps) : sortT qs = sortT ps := sortT_uniq ((sortT_perm qs).trans h) (sortT_sorted qs)
/-- the ints of the tuple at a place -/
def intV : V → Int
  | .int i => i
  | _ => 0
def ktu (H : Hp) : V → List Int
  | .ref t => match H t with
    | some (.tup vs) => vs.map intV
    | _ => []
  | _ => []
theorem intV_map (is : List Int) : (is.map V.int).map intV = is := by
  rw [List.map_map]
  have : (intV ∘ V.int) = id := by funext i; rfl
  rw [this, List.map_id]
section
variable {K : PySem.W.Frag} {F H : Hp}
theorem td_at {v : V} {p : List Int} (h : Dp K F v (td p)) : ∃ t, v = .ref t ∧ F t = some (.tup (p.map V.int)) := by
  unfold td at h
  generalize hd : p.map PyData.int = ds at h
  cases h with
  | tup h hs =>
    subst hd
    exact ⟨_, rfl, by rw [h, dps_ints hs]⟩
theorem tds_at : ∀ {vs : List V} {ps : List (List Int)}, DpAll K F vs (ps.map td) → Same F H → vs.map (ktu H) = ps ∧ ∀ v ∈ vs, Dp K F v (td (ktu H v)) ∧ ∃ t, v = .ref t ∧ H t = some (.tup ((ktu H v).map V.int))
  | _, [], .nil, _ => ⟨rfl, fun v h => by cases h⟩
  | _, p :: ps, .cons h1 h2, e => by
    obtain ⟨t, rfl, ht⟩ := td_at h1
    obtain ⟨i1, i2⟩ := tds_at h2 e
    have hH : H t = some (.tup (p.map V.int)) := (dp_mono e h1 |> td_at).elim fun t' h => by obtain ⟨h3, h4⟩ := h; cases h3; exact h4
    have hk : ktu H (.ref t) = p := by
      simp only [ktu, hH]
      exact intV_map p
    refine ⟨by rw [List.map_cons, hk, i1], fun v hv => ?_⟩
    rcases List.mem_cons.mp hv with rfl | hv
    · rw [hk]; exact ⟨h1, t, rfl, hH⟩
    · exact i2 v hv
theorem dps_ktu : ∀ {vs : List V}, (∀ v ∈ vs, Dp K F v (td (ktu H v))) → DpAll K F vs ((vs.map (ktu H)).map td)
  | [], _ => .nil
  | v :: vs, h => .cons (h v List.mem_cons_self) (dps_ktu fun x hx => h x (List.mem_cons_of_mem _ hx))
theorem sortedT2_ok {K : PySem.W.Frag} : OpN K (rSortedTO K) sortedTF := fun F H xs as rv Q hs hd e g => by
  unfold sortedTF at e
  split at e
  · obtain ⟨ps, h1, h2⟩ := Option.bind_eq_some_iff.mp e
    cases h2
    obtain ⟨v, rfl, h⟩ := dpts1 hd
    obtain ⟨a, us, rfl, h3, h4⟩ := dpt_lst hs h
    obtain ⟨q1, q2⟩ := tdsOf_eq h1
    rw [q1] at h4
    obtain ⟨k1, k2⟩ := tds_at h4 hs
    refine ⟨a, us, ktu H, rfl, h3, fun x hx => ⟨q2 _ (by rw [← k1]; exact List.mem_map.mpr ⟨x, hx, rfl⟩), (k2 x hx).2⟩, fun ys p hys hst hp => ?_⟩
    have hperm : (ys.map (ktu H)).Perm ps := by rw [← k1]; exact hst.perm.map _
    have hsrt : (ys.map (ktu H)).Pairwise fun p q => leL p q = true := List.pairwise_map.mpr (hys.imp fun {x y} h => by unfold leL; rw [show SrtO.lexL (ktu H y) (ktu H x) = false from h]; rfl)
    have hq := sortT_uniq hperm hsrt
    have hdp : DpAll K F ys ((ys.map (ktu H)).map td) := dps_ktu fun v hv => (k2 v (hst.perm.mem_iff.mp hv)).1
    rw [hq] at hdp
    exact g p _ hp ⟨_, rfl, hdp⟩
  · cases e
end
end MP

/-! ### sorted(numbers, key=lambda i: (t[i], i)) -/
namespace LK
open PySem PySem.Calls PyProof.Rows
/-- the lambda's body -/
abbrev keyB (cap par : Str) (p1 p2 p3 p4 p5 : Pos) (x1 : Nat) : Expr := .Tuple [.Subscript (.Name cap p1) (.Name par p2) p3, .Name par p4] x1 p5
section
variable {prog : Program} {w : World} {A : Around} {s : Shared}
theorem key_run {f c' cc ot : Addr} {q par cap : Str} {params : Arguments} {scope : Scope} {clo : List (Str × Addr)} {pm ctv : Value} {p1 p2 p3 p4 p5 : Pos} {x1 : Nat} {its : Array Value} {i a : Int} {t ta : Tok} {j : Nat}
    (hroom : A.depth < recursionLimit) (of : s.heap.get? f = some (PySem.W.kla_obj "<lambda>" q params (keyB cap par p1 p2 p3 p4 p5 x1) scope clo pm c' ctv)) (hco : scope.isCoroutine = false) (hgen : scope.isGenerator = false) (hcode : s.heap.CodeRec (.ref c') q)
    (hbind : bindArgs (PySem.W.kla_fn "<lambda>" q params (keyB cap par p1 p2 p3 p4 p5 x1) scope clo pm (.ref c') ctv) ⟨[.int i t], []⟩ = pure [(par, .int i t)])
    (hnc : ∀ y ∈ scope.names, y.2 ≠ .cell) (hloc : scope.names.lookup par = some .local) (hkind : scope.kind = .function) (hfree : scope.names.lookup cap = some .free)
    (hclo : clo.lookup cap = some cc) (hcell : s.heap.IsCell cc (some (.ref ot))) (ht : IsTup s.heap ot its) (hlo : -(2 ^ 63) ≤ i) (hhi : i < 2 ^ 63) (hj : seqIndex? i its.size = some j) (hx : its[j]? = some (.int a ta)) (hnl : s.heap.NoLimit)
    (hd1 : (cap == ("__debug__" : Str)) = false) (hcd1 : (cap == ("__classdict__" : Str)) = false) (hd2 : (par == ("__debug__" : Str)) = false) :
    wpAny (model prog w) A (call (.ref f) [.int i t]) (PySem.W.KeyPure (.tuple [.int a, .int i]) s) (fun _ _ => False) s := by
  refine wpAny_call ?_
  refine PySem.W.kla_callFunE hroom of rfl hco hgen rfl hcode ?_
  rw [hbind]
  refine wpAny_pure (wpAny_newFunctionEnv hnc (fun y hy => by
    obtain rfl := List.mem_singleton.mp hy
    exact hloc) (fun h₁ hns hsb => ⟨hnl.fresh _ hsb, ?_⟩) hkind)
  have kp : ∀ b o, s.heap.get? b = some o → h₁.get? b = some o := fun b o e => hsb.extBut b o (Nat.ne_of_lt (Heap.lt_size e)) (Heap.get?_push_of_some _ e)
  have hcell1 : h₁.IsCell cc (some (.ref ot)) := by
    obtain ⟨o, ho, hd⟩ := hcell
    exact ⟨o, kp _ _ ho, hd⟩
  have ht1 : IsTup h₁ ot its := ht.keeps kp
  have hpar : ([(par, Value.int i t)] : List (Str × Value)).reverse.lookup par = some (.int i t) := by simp
  refine PySem.W.kla_codeExpr ?_
  refine wpAny_Tuple_spliced ?_
  show wpAny _ _ (spliced ((false, eval (.Subscript (.Name cap p1) (.Name par p2) p3) _) :: backTo p5 (starEach [.Name par p4] _))) _ _ _
  refine spliced_cons ?_
  refine Subscript_Name ?_ (by intro _ _; rfl)
  refine wpAny_Name (wpAny_loadName_free hkind hfree hclo hcell1 ?_ hcd1) hd1
  refine wpAny_Name (wpAny_loadName_local hkind hloc hns hpar ?_) hd2
  refine ⟨"tuple", _, PyProof.Rows.slot_tuple_getitem.lookup, ?_, ?_⟩
  · obtain ⟨o, ho, hc, _⟩ := ht1
    exact ⟨o, ho, hc⟩
  refine PyProof.Rows.getItem_tuple ht1 hlo hhi hj hx ?_
  show wpAny _ _ (spliced ((false, eval (.Name par p4) _) :: [])) _ _ _
  refine spliced_cons ?_
  refine wpAny_Name (wpAny_loadName_local hkind hloc hns hpar ?_) hd2
  refine spliced_nil ?_
  refine ⟨by rw [sizeLine_eq]; simp, ?_⟩
  refine ⟨_, _, rfl, fun b o e => Heap.get?_push_of_some _ (kp b o e), ?_⟩
  refine .tuple (Heap.get?_push_size _ rfl) rfl rfl ?_
  exact .cons (.int _ _) (.cons (.int _ _) .nil)
end
end LK
namespace LK
open PySem PySem.Spec PyProof.Rows L2 LamX MP
/-- the key of a number -/
def keyK (js : List Int) (i : Int) : PyData := .tuple [.int (js.getD i.toNat 0), .int i]
def leK (js : List Int) (i j : Int) : Bool := decide (js.getD i.toNat 0 < js.getD j.toNat 0 ∨ (js.getD i.toNat 0 = js.getD j.toNat 0 ∧ i ≤ j))
def sortK (js is : List Int) : List Int := is.mergeSort (leK js)
def IntIs (v : Value) (i : Int) : Prop := ∃ t, v = .int i t
theorem each_ints : ∀ {is : List Int} {us : List Value}, Vals (is.map V.int) us → PySem.W.EachIs IntIs us is
  | [], _, .nil => .nil
  | i :: is, _, .cons r t => .cons r (each_ints t)
theorem ints_each : ∀ {is : List Int} {us : List Value}, PySem.W.EachIs IntIs us is → Vals (is.map V.int) us
  | [], _, .nil => .nil
  | i :: is, _, .cons r t => .cons r (ints_each t)
theorem vals_int_at : ∀ (js : List Int) (us : List Value), Vals (js.map V.int) us → ∀ k, k < js.length → ∃ t, us[k]? = some (.int (js.getD k 0) t)
  | [], _, .nil, k, h => absurd h (Nat.not_lt_zero _)
  | j :: js, _, .cons r t, 0, _ => by obtain ⟨t, rfl⟩ := r; exact ⟨t, rfl⟩
  | j :: js, _, .cons r t, k + 1, h => by
    obtain ⟨t', e⟩ := vals_int_at js _ t k (by simpa using h)
    exact ⟨t', by simpa using e⟩
def tSortK (T : List (Addr × Str)) (P : Addr) (K : PySem.W.Frag) (ic : Nat) (te : TE) : TE := fun σ H Q => te σ H fun v H1 => Tabs T H1 ∧ ∃ (l ot : Addr) (is js : List Int), v = .ref l ∧ SqL K H1 l (is.map V.int) ∧ σ[ic]? = some (some (.ref ot)) ∧ H1 ot = some (.tup (js.map V.int)) ∧ (∀ i ∈ is, 0 ≤ i ∧ i < js.length ∧ i < 2 ^ 63) ∧
  (∀ H2, (∀ b o, b ≠ P → H1 b = some o → H2 b = some o) → Tabs T H2 → (∀ xs, SqL K H1 l xs → SqL K H2 l xs) ∧ ∀ p, H2 p = none → Q (.ref p) (upd H2 p (.lst ((sortK js is).map V.int))))
variable {X : Cx}
theorem pe_sortK {T : List (Addr × Str)} {c P : Addr} {params : Arguments} {scope : Scope} {cap par : Str} {p p1 p2 p3 p4 p5 lpos kpos pos : Pos} {x1 ic : Nat} {e : Expr} {te : TE}
    (TB : TabB X.base X.mg c P) (hcode : X.env.code = .ref c) (L : LamS1 X.env.scope scope par) (hne : cap ≠ par) (hNc : X.N[ic]? = some cap) (hfree : scope.names.lookup cap = some .free)
    (hm : (P, X.env.qual ++ "<lambda>") ∈ T) (hu : ∀ p ∈ T, p.1 = P → p.2 = X.env.qual ++ "<lambda>") (hdef : defaultsOf params X.env = ([], []))
    (hbind : ∀ (cl : List (Str × Addr)) (pm cv ctv u : Value), bindArgs (PySem.W.kla_fn "<lambda>" (X.env.qual ++ "<lambda>") params (keyB cap par p1 p2 p3 p4 p5 x1) scope cl pm cv ctv) ⟨[u], []⟩ = pure [(par, u)])
    (hr : Room 1 X.A) (hg : Gl X "sorted") (hmg : X.mg "sorted" = none) (ha : PE X e te) (he1 : starEach [e] X.env = [(false, eval e X.env)])
    (hd1 : (cap == ("__debug__" : Str)) = false := by decide) (hcd1 : (cap == ("__classdict__" : Str)) = false := by decide) (hd2 : (par == ("__debug__" : Str)) = false := by decide)
    (he : backTo pos (starEach [e] X.env) = (false, eval e X.env) :: backTo pos (starEach [] X.env) := by rfl) (hpl : (backTo pos (starEach [e] X.env)).any (·.1) = false := by rfl)
    (hall : (backToKw pos (keywordEach [⟨some (Str.ofString "key"), .Lambda params (keyB cap par p1 p2 p3 p4 p5 x1) scope lpos, kpos⟩] X.env)).all (·.1.isSome) = true := by rfl) (hnone : (backToKw pos (keywordEach [⟨some (Str.ofString "key"), .Lambda params (keyB cap par p1 p2 p3 p4 p5 x1) scope lpos, kpos⟩] X.env)).any (·.1.isNone) = false := by rfl)
    (hks : (backToKw pos (keywordEach [⟨some (Str.ofString "key"), .Lambda params (keyB cap par p1 p2 p3 p4 p5 x1) scope lpos, kpos⟩] X.env)).filterMap (·.1) = [Str.ofString "key"] := by rfl) :
    PE X (.Call (.Name "sorted" p) [e] [⟨some (Str.ofString "key"), .Lambda params (keyB cap par p1 p2 p3 p4 p5 x1) scope lpos, kpos⟩] pos) (tSortK T P X.K ic te) := by
  refine ⟨fun pins s σ H Q I h => ?_⟩
  refine wpAny_Call_Name_kw (ld_blt I hg hmg PyProof.Rows.boot_sorted ?_ (by decide) (by decide))
  have hk := pk_cons (nm := some (Str.ofString "key")) (kpos := kpos) (pe_lam1 (pos := lpos) (body := keyB cap par p1 p2 p3 p4 p5 x1) TB hcode L hm hu hdef) (pk_nil (X := X))
  refine PyProof.Rows.callWith_kw (thn ((pa_cons ha pa_nil he1).run pos pins s σ H (fun vs H1 => match vs with
  | [v] => Tabs T H1 ∧ ∃ (l ot : Addr) (is js : List Int), v = .ref l ∧ SqL X.K H1 l (is.map V.int) ∧ σ[ic]? = some (some (.ref ot)) ∧ H1 ot = some (.tup (js.map V.int)) ∧ (∀ i ∈ is, 0 ≤ i ∧ i < js.length ∧ i < 2 ^ 63) ∧
  (∀ H2, (∀ b o, b ≠ P → H1 b = some o → H2 b = some o) → Tabs T H2 → (∀ xs, SqL X.K H1 l xs → SqL X.K H2 l xs) ∧ ∀ p, H2 p = none → Q (.ref p) (upd H2 p (.lst ((sortK js is).map V.int))))
  | _ => False) I h) fun us s1 ⟨vs, H1, I1, r1, q1⟩ => ?_) he hpl hall hnone
  obtain ⟨v, rfl⟩ : ∃ v, vs = [v] := by
    cases vs with
    | nil => exact q1.elim
    | cons v vs => cases vs with
      | nil => exact ⟨v, rfl⟩
      | cons _ _ => exact q1.elim
  obtain ⟨hT, l, ot, is, js, rfl, hl, hσ, hot, hin, hQ⟩ := q1
  refine thn (hk.run pos pins s1 σ H1 (fun zs H2 => ∃ (f c' : Addr) (pm ctv : Value), zs = [.ref f] ∧ (∀ b o, b ≠ P → H1 b = some o → H2 b = some o) ∧ Tabs T H2 ∧ H2 f = some (FunO f (PySem.W.kla_obj "<lambda>" (X.env.qual ++ "<lambda>") params (keyB cap par p1 p2 p3 p4 p5 x1) scope (cloFrom X.env.cells scope.names []) pm c' ctv)) ∧ H2 c' = some (CodeO c' (X.env.qual ++ "<lambda>"))) I1 ?_) fun ws s2 ⟨zs, H2, I2, r2, q2⟩ => ?_
  · exact ⟨hT, fun f c' pm ctv H2 k t nf hf hc => ⟨f, c', pm, ctv, rfl, k, t, hf, hc⟩⟩
  rw [hks]
  obtain ⟨f, c', pm, ctv, rfl, hkeep, hT2, hf, hc⟩ := q2
  obtain rfl := Vals.ref1 r1
  obtain rfl := Vals.ref1 r2
  obtain ⟨hsq, hQ⟩ := hQ H2 hkeep hT2
  obtain ⟨its, rv, hil, hz⟩ := I2.list (hsq _ hl)
  obtain ⟨ps, hP, _⟩ := hT _ hm
  have hoP : ot ≠ P := fun z => by
    rw [z] at hot
    rw [hP] at hot
    cases hot
  have hot2 := hkeep ot _ hoP hot
  obtain ⟨_, its2, rt, o2, ho2, hc2, n2, hd2'⟩ := I2.hok _ _ hot2
  have of2 : s2.heap.get? f = some (PySem.W.kla_obj "<lambda>" (X.env.qual ++ "<lambda>") params (keyB cap par p1 p2 p3 p4 p5 x1) scope (cloFrom X.env.cells scope.names []) pm c' ctv) := (I2.hok f _ hf).1
  obtain ⟨⟨oc, cvs, ct, hoc, hdc, hvc⟩, _, _⟩ := I2.hok c' _ hc
  have hcap : (cap, NameKind.free) ∈ scope.names := PySem.mem_of_lookup hfree
  obtain ⟨cc, hcc⟩ : ∃ c, (cloFrom X.env.cells scope.names []).lookup cap = some c := mem_lookup (cloFrom_has (cells := X.env.cells) (acc := []) hcap)
  have hcellX : X.env.cells.lookup cap = some cc := by
    rcases cloFrom_mem (PySem.mem_of_lookup hcc) with hm' | ⟨h1, h2⟩
    · cases hm'
    · obtain ⟨c1, hc1⟩ := L.has I2.ok _ h1 rfl
      have hc1 : X.env.cells.lookup cap = some c1 := hc1
      rw [h2, hc1]; rfl
  have hcell : s2.heap.IsCell cc (some (.ref ot)) := by
    obtain ⟨m, hn, hlk⟩ := I2.loc
    have hvis : Vis X.env.scope cap := (L.free _ hcap rfl).elim (fun k => .inr (.inl k)) (fun k => .inr (.inr k))
    obtain ⟨w', rw', q⟩ := hlk ic cap _ hNc hσ hvis
    obtain rfl : w' = Value.ref ot := rw'
    rcases q with ⟨k', _⟩ | ⟨_, c3, e', z⟩
    · have k' : X.env.scope.names.lookup cap = some .local := k'
      rcases L.free _ hcap rfl with k2 | k2 <;> rw [show X.env.scope.names.lookup cap = _ from k2] at k' <;> cases k'
    · rw [hcellX] at e'
      cases e'
      exact z
  have hsz : its2.length = js.length := by rw [← rt.length, List.length_map]
  refine PySem.W.sorted_key_data (b := false) (R := IntIs) (keyK js) hil.isList (each_ints rv) (PySem.W.AllAlike.of fun _ _ => by simp [keyK, PySem.W.alike, PySem.W.alikeAll]) (PySem.W.Sortable.tuples fun _ => ⟨_, _, rfl⟩) (by rw [List.length_map] at hz; exact hz) (fun x _ => ?_) (PyProof.Rows.ksk_s1 _ _) (fun _ => PyProof.Rows.ksk_l1 _ _) (fun _ => PyProof.Rows.ksk_t1 _ _) (fun v x hv hx h tk kp => ?_) fun out cn h' tk kp _ hD hlen eo => ?_
  · have hd : (keyK js x).depth = 1 := by simp [keyK, PyData.depth, PyData.depthAll]
    have := hr.un
    omega
  · obtain ⟨t, rfl⟩ := hv
    obtain ⟨i0, i1, i2⟩ := hin x hx
    obtain ⟨ta, hta⟩ := vals_int_at js its2 rt x.toNat (by omega)
    refine key_run (s := { s2 with heap := h, toks := tk }) (j := x.toNat) (its := its2.toArray) (ta := ta) ?_ (kp _ _ of2) L.co L.gen ⟨c', oc, cvs, ct, rfl, kp _ _ hoc, hdc, hvc⟩ (hbind _ _ _ _ _) (fun y hy => (L.own y hy).1) L.lc L.kind hfree hcc ?_ ⟨o2, kp _ _ ho2, hc2, n2, hd2'⟩ (by omega) i2 ?_ ?_ (I2.nolimit.keeps kp) hd1 hcd1 hd2
    · show X.A.depth < _
      have := hr.dp
      omega
    · obtain ⟨o, ho, hd⟩ := hcell
      exact ⟨o, kp _ _ ho, hd⟩
    · exact PySem.StrLaws.seqIndex_nonneg i0 (by rw [List.size_toArray, hsz]; exact i1)
    · rw [List.getElem?_toArray]; exact hta
  · have hle : PySem.W.dataLe false (keyK js) = leK js := PySem.W.dataLe_ii (fun i : Int => js.getD i.toNat 0) fun i => i
    rw [hle] at eo
    have hl2 : ((sortK js is).map V.int).length ≤ sizeLine := by
      rw [List.length_map]
      unfold sortK
      rw [(List.mergeSort_perm is (leK js)).length_eq]
      rw [List.length_map] at hz
      exact hz
    exact ⟨.ref (s2.heap.objs.size + 1), upd H2 (s2.heap.objs.size + 1) (.lst ((sortK js is).map V.int)), I2.laid (t' := tk) kp (Nat.le_succ _) ⟨hl2, out, cn, ints_each eo, hD⟩, rfl, hQ _ (I2.hok.fresh (Nat.le_succ _))⟩
end LK

open PySem PySem.Spec L2
namespace MP
open PyProof.Rows LamX LK
/-! ### sorted(numbers, key=lambda i: (t[i], i)) in the layer -/
def inK (js is : List Int) : Prop := ∀ i ∈ is, 0 ≤ i ∧ i < js.length ∧ i < 2 ^ 63
noncomputable def mSortK (ic : Nat) (ma : M Ret) : M Ret := fun E => (ma E).bind fun r E1 => match dat E1 r, (E1[ic]? : Option MP.Slot) with
  | some (.list ds), some (.val (.tuple ss)) => (match intsOf ds, intsOf ss with
    | some is, some js => if Ok (inK js is) then .ok (.own (.lst ((sortK js is).map PyData.int))) E1 else .no
    | _, _ => .no)
  | _, _ => .no
section
variable {X : Cx} {cl : Cl} {W : WX} {ma : M Ret}
theorem den_sortK {c P : Addr} {params : Arguments} {scope : Scope} {cap par : Str} {p p1 p2 p3 p4 p5 lpos kpos pos : Pos} {x1 ic : Nat} {e : Expr}
    (TB : TabB X.base X.mg c P) (hcode : X.env.code = .ref c) (L : LamS1 X.env.scope scope par) (hne : cap ≠ par) (hNc : X.N[ic]? = some cap) (hfree : scope.names.lookup cap = some .free)
    (hm : (P, X.env.qual ++ "<lambda>") ∈ cl.T) (hu : ∀ p ∈ cl.T, p.1 = P → p.2 = X.env.qual ++ "<lambda>") (hdef : defaultsOf params X.env = ([], []))
    (hbind : ∀ (cl : List (Str × Addr)) (pm cv ctv u : Value), bindArgs (PySem.W.kla_fn "<lambda>" (X.env.qual ++ "<lambda>") params (keyB cap par p1 p2 p3 p4 p5 x1) scope cl pm cv ctv) ⟨[u], []⟩ = pure [(par, u)])
    (hr : Room 1 X.A) (hg : Gl X "sorted") (hmg : X.mg "sorted" = none) (ha : PE X e (tM X.K cl W ma)) (he1 : starEach [e] X.env = [(false, eval e X.env)])
    (hd1 : (cap == ("__debug__" : Str)) = false := by decide) (hcd1 : (cap == ("__classdict__" : Str)) = false := by decide) (hd2 : (par == ("__debug__" : Str)) = false := by decide)
    (he : backTo pos (starEach [e] X.env) = (false, eval e X.env) :: backTo pos (starEach [] X.env) := by rfl) (hpl : (backTo pos (starEach [e] X.env)).any (·.1) = false := by rfl)
    (hall : (backToKw pos (keywordEach [⟨some (Str.ofString "key"), .Lambda params (keyB cap par p1 p2 p3 p4 p5 x1) scope lpos, kpos⟩] X.env)).all (·.1.isSome) = true := by rfl) (hnone : (backToKw pos (keywordEach [⟨some (Str.ofString "key"), .Lambda params (keyB cap par p1 p2 p3 p4 p5 x1) scope lpos, kpos⟩] X.env)).any (·.1.isNone) = false := by rfl)
    (hks : (backToKw pos (keywordEach [⟨some (Str.ofString "key"), .Lambda params (keyB cap par p1 p2 p3 p4 p5 x1) scope lpos, kpos⟩] X.env)).filterMap (·.1) = [Str.ofString "key"] := by rfl) :
    PE X (.Call (.Name "sorted" p) [e] [⟨some (Str.ofString "key"), .Lambda params (keyB cap par p1 p2 p3 p4 p5 x1) scope lpos, kpos⟩] pos) (tM X.K cl W (mSortK ic ma)) :=
  PE.imp (pe_sortK TB hcode L hne hNc hfree hm hu hdef hbind hr hg hmg ha he1 hd1 hcd1 hd2 he hpl hall hnone hks) fun σ H Q h => by
  obtain ⟨C, E, T, R, h⟩ := h
  refine ⟨C, E, T, R, (Run.bind h).imp fun r E1 h1 v H1 R1 b1 => ?_⟩
  split at h1
  case h_2 => exact h1.elim
  rename_i ds ss ed es
  split at h1
  case h_2 => exact h1.elim
  rename_i is js eis ejs
  split at h1
  case isFalse => exact h1.elim
  rename_i hok
  obtain ⟨F, ρ, RF⟩ := R1
  have hdp := RF.dat (k := T.length) (by simp) b1 ed
  obtain ⟨l, rfl, hl⟩ := sq_ints RF.fh eis hdp
  obtain ⟨wc, hwc⟩ := slot_there RF es
  obtain ⟨xc, rfl, hxc⟩ := RF.sl ic _ _ hwc es
  rw [intsOf_eq ejs] at hxc
  obtain ⟨ot, rfl, hot⟩ : ∃ ot, xc = .ref ot ∧ F ot = some (.tup (js.map V.int)) := by
    generalize hd : js.map PyData.int = ds' at hxc
    cases hxc with
    | tup h hs =>
      subst hd
      exact ⟨_, rfl, by rw [h, dps_ints hs]⟩
  have R2 := RF.drop
  refine ⟨RF.tb.1, l, ot, is, js, rfl, hl, hwc, RF.fh _ _ hot, hok, fun H2 hk1 hT2 => ?_⟩
  have hS : Stp cl.T H1 H2 := ⟨fun b o e => hk1 b o (fun z => by
    subst z
    rw [show noT cl.T H1 b = none from if_pos (List.mem_map.mpr ⟨_, hm, rfl⟩)] at e
    cases e) (noT_sub b o e), hT2⟩
  have R3 : RelF X.K cl C F ρ E1 T σ H2 := R2.after hS (L2.Same.refl F) (same_stp R2 hS) (fun _ _ _ => rfl)
  refine ⟨fun xs hx => ?_, fun q hq => ?_⟩
  · rcases hx with hx | hx
    · obtain ⟨ps, hP⟩ := tabs_at RF.tb.1 (List.mem_map.mpr ⟨_, hm, rfl⟩)
      rcases hx with hx | ⟨o, hx⟩
      · exact .inl (.inl (hk1 l _ (fun z => by rw [z, hP] at hx; cases hx) hx))
      · exact .inl (.inr ⟨o, hk1 l _ (fun z => by rw [z, hP] at hx; cases hx) hx⟩)
    · exact .inr hx
  · exact h1 _ _ (R3.push_own (o := .lst ((sortK js is).map PyData.int)) hq (ho := .lst ((sortK js is).map V.int)) ⟨_, rfl, dps_of_ints _⟩).rel trivial
end
@[simp] theorem e_sortK (ic : Nat) (ma : M Ret) (E : SEnv) : mSortK ic ma E = (ma E).bind fun r E1 => match dat E1 r, (E1[ic]? : Option MP.Slot) with
  | some (.list ds), some (.val (.tuple ss)) => (match intsOf ds, intsOf ss with
    | some is, some js => if Ok (inK js is) then .ok (.own (.lst ((sortK js is).map PyData.int))) E1 else .no
    | _, _ => .no)
  | _, _ => .no := rfl
end MP

open PySem PySem.Spec L2
namespace MP
/-! ### a nest: a list of own lists, or of tuples of data and an own list -/
abbrev NE := Option D × List D
section
variable {K : PySem.W.Frag} {cl : Cl} {C : Ctx} {F F' : Hp} {ρ ρ' : Own} {E E' : SEnv} {T T' : List (V × Ret)} {σ : L2.St} {H H' H0 H0' : Hp} {i j k : Nat} {p q : Addr} {v : V} {r : Ret} {o : MO} {d : D} {g : Tag}
def NI1 (K : PySem.W.Frag) (F : Hp) (ρ : Own) (H0 H : Hp) (g : Tag) (v : V) (q : Addr) (x : NE) : Prop := NIt K F v q x.1 ∧ OwnAt K F ρ H g q (.lst x.2) ∧ H0 q = none
theorem nits_len : ∀ {vs : List V} {qs : List Addr} {xs : List NE}, NIts K F ρ H0 H g vs qs xs → vs.length = xs.length ∧ qs.length = xs.length
  | [], [], [], _ => ⟨rfl, rfl⟩
  | _ :: _, _ :: _, _ :: _, ⟨_, h⟩ => let ⟨a, b⟩ := nits_len h; ⟨congrArg (· + 1) a, congrArg (· + 1) b⟩
theorem nits_snoc : ∀ {vs : List V} {qs : List Addr} {xs : List NE} {v : V} {q : Addr} {x : NE}, NIts K F ρ H0 H g vs qs xs → NI1 K F ρ H0 H g v q x → NIts K F ρ H0 H g (vs ++ [v]) (qs ++ [q]) (xs ++ [x])
  | [], [], [], _, _, _, _, h => ⟨h, trivial⟩
  | _ :: _, _ :: _, _ :: _, _, _, _, ⟨a, h⟩, n => ⟨a, nits_snoc h n⟩
theorem nits_unsnoc : ∀ {vs : List V} {qs : List Addr} {xs : List NE} {x : NE}, NIts K F ρ H0 H g vs qs (xs ++ [x]) → ∃ vs' v qs' q, vs = vs' ++ [v] ∧ qs = qs' ++ [q] ∧ NIts K F ρ H0 H g vs' qs' xs ∧ NI1 K F ρ H0 H g v q x
  | [v], [q], [], x, ⟨a, _⟩ => ⟨[], v, [], q, rfl, rfl, trivial, a⟩
  | v :: v2 :: vs, q :: q2 :: qs, [], x, ⟨_, h⟩ => h.elim
  | [v], q :: q2 :: qs, [], x, ⟨_, h⟩ => h.elim
  | v :: v2 :: vs, [q], [], x, ⟨_, h⟩ => h.elim
  | [], qs, xs, x, h => by cases xs <;> cases qs <;> exact h.elim
  | v :: vs, q :: qs, y :: xs, x, ⟨a, h⟩ => by
    obtain ⟨vs', w, qs', u, rfl, rfl, h1, h2⟩ := nits_unsnoc h
    exact ⟨v :: vs', w, q :: qs', u, rfl, rfl, ⟨a, h1⟩, h2⟩
theorem nits_get : ∀ {vs : List V} {qs : List Addr} {xs : List NE} {m : Nat} {x : NE}, NIts K F ρ H0 H g vs qs xs → xs[m]? = some x → ∃ v q, vs[m]? = some v ∧ qs[m]? = some q ∧ NI1 K F ρ H0 H g v q x
  | [], [], [], _, _, _, e => by simp at e
  | [], _ :: _, _, _, _, h, _ => h.elim
  | [], [], _ :: _, _, _, h, _ => h.elim
  | _ :: _, [], _, _, _, h, _ => h.elim
  | _ :: _, _ :: _, [], _, _, h, _ => h.elim
  | _ :: _, _ :: _, _ :: _, 0, x, ⟨a, h⟩, e => by cases e; exact ⟨_, _, rfl, rfl, a⟩
  | _ :: _, _ :: _, _ :: _, m + 1, x, ⟨a, h⟩, e => nits_get (m := m) h e
theorem nits_mem : ∀ {vs : List V} {qs : List Addr} {xs : List NE} {q : Addr}, NIts K F ρ H0 H g vs qs xs → q ∈ qs → ∃ ds, OwnAt K F ρ H g q (.lst ds) ∧ H0 q = none
  | [], [], _, _, _, e => by cases e
  | [], _ :: _, _, _, h, _ => h.elim
  | _ :: _, [], _, _, h, _ => h.elim
  | _ :: _, _ :: _, [], _, h, _ => h.elim
  | _ :: _, _ :: _, _ :: _, q, ⟨a, h⟩, e => by
    cases e with
    | head => exact ⟨_, a.2⟩
    | tail _ e => exact nits_mem h e
theorem nits_chg (e : Same F F') : ∀ {vs : List V} {qs : List Addr} {xs : List NE}, (∀ q ∈ qs, ∀ o, OwnAt K F ρ H g q o → H0 q = none → OwnAt K F' ρ' H' g q o ∧ H0' q = none) → NIts K F ρ H0 H g vs qs xs → NIts K F' ρ' H0' H' g vs qs xs
  | [], [], [], _, _ => trivial
  | _ :: _, q :: qs, _ :: _, hq, ⟨⟨h1, h2, h3⟩, h4⟩ => ⟨⟨h1.mono e, hq q List.mem_cons_self _ h2 h3⟩, nits_chg e (fun q hm => hq q (List.mem_cons_of_mem _ hm)) h4⟩
/-- one of the lists is changed -/
theorem nits_put {ho : HO} {ds : List D} (m : MRep K F ho (.lst ds)) : ∀ {vs : List V} {qs : List Addr} {xs : List NE} {n : Nat} {x : NE} {q : Addr}, NIts K F ρ H0 H g vs qs xs → qs.Nodup → xs[n]? = some x → qs[n]? = some q → NIts K F ρ H0 (upd H q ho) g vs qs (xs.set n (x.1, ds))
  | [], [], [], _, _, _, _, _, e, _ => by simp at e
  | [], _ :: _, _, _, _, _, h, _, _, _ => h.elim
  | [], [], _ :: _, _, _, _, h, _, _, _ => h.elim
  | _ :: _, [], _, _, _, _, h, _, _, _ => h.elim
  | _ :: _, _ :: _, [], _, _, _, h, _, _, _ => h.elim
  | v :: vs, u :: qs, y :: xs, 0, x, q, ⟨⟨h1, h2, h3⟩, h4⟩, nd, e1, e2 => by
    cases e1; cases e2
    have hn := (List.nodup_cons.mp nd).1
    refine ⟨⟨h1, ⟨ho, upd_same, m, h2.fn, h2.tag⟩, h3⟩, ?_⟩
    exact nits_chg (L2.Same.refl F) (fun q hm o a b => ⟨a.grow (L2.Same.refl F) (fun _ e => by rw [upd_ne (fun z : q = u => hn (by rw [← z]; exact hm))]; exact e) a.fn rfl, b⟩) h4
  | v :: vs, u :: qs, y :: xs, n + 1, x, q, ⟨⟨h1, h2, h3⟩, h4⟩, nd, e1, e2 => by
    have hn := (List.nodup_cons.mp nd).1
    have e2' : qs[n]? = some q := e2
    have hne : u ≠ q := fun z => by subst z; exact hn (List.mem_of_getElem? e2')
    exact ⟨⟨h1, h2.grow (L2.Same.refl F) (fun _ e => by rw [upd_ne hne]; exact e) h2.fn rfl, h3⟩, nits_put m h4 (List.nodup_cons.mp nd).2 e1 e2'⟩
/-- what a slot holds as a nest -/
def nview : Option MP.Slot → Option (Bool × List NE)
  | some (.nst b xs) => some (b, xs)
  | some (.own (.lst [])) => some (false, [])
  | _ => none
theorem nview_ok {s : MP.Slot} {w : Option V} {b : Bool} {xs : List NE} (h : SlotOk K cl C F ρ H i w s) (e : nview (some s) = some (b, xs)) : ∃ p, w = some (.ref p) ∧ NestAt K F ρ C.H0 H (.s i) p xs ∧ (b = true → C.lck i = some p) := by
  unfold nview at e
  split at e
  · rename_i q; cases q; cases e; exact h
  · rename_i q; cases q; cases e
    obtain ⟨p, e1, ⟨ho, e2, ⟨vs, rfl, e3⟩, e4, e5⟩, e6⟩ := h
    cases e3
    exact ⟨p, e1, ⟨[], [], ⟨_, e2, ⟨_, rfl, rfl⟩, e4, e5⟩, e6, by simp, trivial⟩, fun z => by cases z⟩
  · cases e
theorem nview_free {s : MP.Slot} {y : Bool × List NE} (e : nview (some s) = some y) : ∀ o, s ≠ .lnt o := fun o z => by subst z; cases e
/-- a slot and what it owns are changed -/
theorem RelF.redo {s s' : MP.Slot} (R : RelF K cl C F ρ E (T ++ T') σ H) (e : E[i]? = some s) (hs : ∀ o, s ≠ .lnt o) (hF : Same F F') (hH : Same F' H') (h0 : ∀ p o, C.H0 p = some o → (∀ i, C.lent i ≠ some p) → H' p = some o) (hf : ∀ p o, C.H0 p = some o → F' p = C.F0 p) (ht : TOk cl.T F' H')
    (hq : ∀ g, g ≠ Tag.s i → (∀ k, g = .t k → k < T.length) → ∀ q o, OwnAt K F ρ H g q o → OwnAt K F' ρ' H' g q o) (new : ∀ v, σ[i]? = some v → SlotOk K cl C F ρ H i v s → SlotOk K cl C F' ρ' H' i v s') : RelF K cl C F' ρ' (E.set i s') T σ H' where
  len := by simpa using R.len
  f0 := L2.Same.trans R.f0 hF
  fh := hH
  h0 := h0
  hf := hf
  tb := ht
  nt := R.nt
  sl := fun j w u e1 e2 => by
    rcases set_cases e2 with ⟨rfl, rfl, _⟩ | ⟨n, e2⟩
    · exact new _ e1 (R.sl _ _ _ e1 e)
    · exact (R.sl j w u e1 e2).grow hF fun q o h => hq (.s j) (fun z => by cases z; exact n rfl) (fun k z => by cases z) q o h
  ln := fun j p e1 => by
    obtain ⟨o, h1, h2⟩ := R.ln j p e1
    have n : j ≠ i := fun z => by subst z; rw [e] at h1; cases h1; exact hs o rfl
    exact ⟨o, by rw [List.getElem?_set_ne (Ne.symm n)]; exact h1, h2⟩
  tm := fun k w r e1 => by
    have hk := (List.getElem?_eq_some_iff.mp e1).1
    have e1' : (T ++ T')[k]? = some (w, r) := by rw [List.getElem?_append_left hk]; exact e1
    exact (R.tm k w r e1').grow hF fun q o h => hq (.t k) (fun z => by cases z) (fun k' z => by cases z; exact hk) q o h
end
end MP

open PySem PySem.Spec L2
namespace MP
/-- one of a nest as an expression finds it -/
structure InAt (K : PySem.W.Frag) (cl : Cl) (C : Ctx) (F : Hp) (ρ : Own) (E : SEnv) (T : List (V × Ret)) (σ : L2.St) (H : Hp) (i : Nat) (b : Bool) (xs : List NE) (m : Nat) (x : NE) (p : Addr) (vs : List V) (qs : List Addr) (v : V) (q : Addr) : Prop where
  R : RelF K cl C F ρ E T σ H
  s : σ[i]? = some (some (.ref p))
  o : OwnAt K F ρ H (.s i) p (.raw vs)
  h0 : C.H0 p = none
  nd : (p :: qs).Nodup
  its : NIts K F ρ C.H0 H (.s i) vs qs xs
  lk : b = true → C.lck i = some p
  at' : qs[m]? = some q
  xat : xs[m]? = some x
  vat : vs[m]? = some v
  one : NI1 K F ρ C.H0 H (.s i) v q x
def tNI (K : PySem.W.Frag) (cl : Cl) (W : WX) (tup : Bool) (i : Nat) (mi : M Ret) : TE := fun σ H Q => ∃ C E T, Rel K cl C E T σ H ∧ (nview E[i]?).isSome = true ∧
  Run K cl W C T σ (fun ri E1 => ∃ b xs n m x, nview E1[i]? = some (b, xs) ∧ dat E1 ri = some (.int n) ∧ ixN xs.length n = some m ∧ xs[m]? = some x ∧ x.1.isSome = tup ∧
    ∀ F ρ p vs qs v q H1, InAt K cl C F ρ E1 T σ H1 i b xs m x p vs qs v q → nview E1[i]? = some (b, xs) → Q (.ref q) H1) (mi E)
theorem ixN_at {α β : Type} {xs : List α} {ys : List β} {n : Int} {m : Nat} {y : β} (h : ixN xs.length n = some m) (hl : ys.length = xs.length) (e : ys[m]? = some y) : atI ys n = some y := by
  unfold atI
  rw [hl, h]
  exact e
section
variable {X : Cx} {cl : Cl} {W : WX} {e : Expr} {pos p2 : Pos} {mi : M Ret}
theorem inAt_of {K : PySem.W.Frag} {C : Ctx} {E : SEnv} {T : List (V × Ret)} {σ : L2.St} {H : Hp} {i m : Nat} {b : Bool} {xs : List NE} {x : NE} (R : Rel K cl C E T σ H) (h : nview E[i]? = some (b, xs)) (hx : xs[m]? = some x) : ∃ F ρ p vs qs v q, InAt K cl C F ρ E T σ H i b xs m x p vs qs v q := by
  obtain ⟨F, ρ, RF⟩ := R
  cases es : E[i]? with
  | none => rw [es] at h; cases h
  | some s =>
    rw [es] at h
    obtain ⟨w, hw⟩ := slot_there RF es
    obtain ⟨p, rfl, ⟨vs, qs, h1, h2, h3, h4⟩, h5⟩ := nview_ok (RF.sl i w s hw es) h
    obtain ⟨v, q, e1, e2, e3⟩ := nits_get h4 hx
    exact ⟨F, ρ, p, vs, qs, v, q, RF, hw, h1, h2, h3, h4, h5, e2, hx, e1, e3⟩
theorem nview_var {K : PySem.W.Frag} {C : Ctx} {E : SEnv} {T : List (V × Ret)} {σ : L2.St} {H : Hp} {i : Nat} (R : Rel K cl C E T σ H) (h : (nview E[i]?).isSome = true) : ∃ p, σ[i]? = some (some (.ref p)) := by
  obtain ⟨F, ρ, RF⟩ := R
  obtain ⟨⟨b, xs⟩, h⟩ := Option.isSome_iff_exists.mp h
  cases es : E[i]? with
  | none => rw [es] at h; cases h
  | some s =>
    rw [es] at h
    obtain ⟨w, hw⟩ := slot_there RF es
    obtain ⟨p, rfl, _⟩ := nview_ok (RF.sl i w s hw es) h
    exact ⟨p, hw⟩
theorem OwnAt.rawL {K : PySem.W.Frag} {F : Hp} {ρ : Own} {H : Hp} {g : Tag} {p : Addr} {vs : List V} (h : OwnAt K F ρ H g p (.raw vs)) : H p = some (.lst vs) := by
  obtain ⟨ho, e, ⟨ws, rfl, rfl⟩, _⟩ := h; exact e
theorem OwnAt.lstL {K : PySem.W.Frag} {F : Hp} {ρ : Own} {H : Hp} {g : Tag} {p : Addr} {ds : List D} (h : OwnAt K F ρ H g p (.lst ds)) : ∃ us, H p = some (.lst us) ∧ DpAll K F us ds := by
  obtain ⟨ho, e, ⟨ws, rfl, hd⟩, _⟩ := h; exact ⟨ws, e, hd⟩
theorem pe_ninL (i : Nat) {x : Str} (hi : PE X e (tM X.K cl W mi)) (hN : X.N[i]? = some x := by rfl) (hv : Vis X.env.scope x := by first | exact Or.inl rfl | exact Or.inr (Or.inl rfl) | exact Or.inr (Or.inr rfl)) (hd : (x == ("__debug__" : Str)) = false := by decide) (hcd : (x == ("__classdict__" : Str)) = false := by decide) (hs : PlainIx e := by exact fun _ _ => rfl) :
    PE X (.Subscript (.Name x p2) e pos) (tNI X.K cl W false i mi) := PE.imp (pe_ix ix_seq (pe_var hN hv hd hcd) hi hs) fun σ H Q h => by
  obtain ⟨C, E, T, R, hg, h⟩ := h
  obtain ⟨p, hp⟩ := nview_var R hg
  refine ⟨_, hp, C, E, T, R, h.imp fun ri E1 h1 v1 H1 R1 b1 => ?_⟩
  obtain ⟨b, xs, n, m, x, e1, e2, e3, e4, e5, h1⟩ := h1
  obtain ⟨F0, ρ0, RF0⟩ := _root_.id R1
  have hn := dpt_int (RF0.dat (k := T.length) (v := v1) (r := ri) (by simp) b1 e2)
  subst hn
  obtain ⟨F, ρ, p', vs, qs, v, q, A⟩ := inAt_of R1.drop e1 e4
  have hpp : p' = p := by have := A.s; rw [hp] at this; cases this; rfl
  subst hpp
  have hv2 : v = .ref q := by
    obtain ⟨h2, _⟩ := A.one
    cases hx : x.1 with
    | none => rw [hx] at h2; exact h2
    | some d => rw [hx] at e5; cases e5
  subst hv2
  exact .inl ⟨p', vs, n, .ref q, rfl, rfl, SqL.of A.o.rawL, ixN_at e3 (nits_len A.its).1 A.vat, h1 F ρ p' vs qs (.ref q) q H1 A e1⟩
theorem pe_ninT (i : Nat) {x : Str} (hi : PE X e (tM X.K cl W mi)) {p3 p4 : Pos} {t1 : Nat} (hN : X.N[i]? = some x := by rfl) (hv : Vis X.env.scope x := by first | exact Or.inl rfl | exact Or.inr (Or.inl rfl) | exact Or.inr (Or.inr rfl)) (hd : (x == ("__debug__" : Str)) = false := by decide) (hcd : (x == ("__classdict__" : Str)) = false := by decide) (hs : PlainIx e := by exact fun _ _ => rfl) (hs2 : PlainIx (.Constant (.int 1) t1 p4) := by exact fun _ _ => rfl) :
    PE X (.Subscript (.Subscript (.Name x p2) e pos) (.Constant (.int 1) t1 p4) p3) (tNI X.K cl W true i mi) := PE.imp (pe_ix ix_seq (pe_ix ix_seq (pe_var hN hv hd hcd) hi hs) pe_int hs2) fun σ H Q h => by
  obtain ⟨C, E, T, R, hg, h⟩ := h
  obtain ⟨p, hp⟩ := nview_var R hg
  refine ⟨_, hp, C, E, T, R, h.imp fun ri E1 h1 v1 H1 R1 b1 => ?_⟩
  obtain ⟨b, xs, n, m, x, e1, e2, e3, e4, e5, h1⟩ := h1
  obtain ⟨F0, ρ0, RF0⟩ := _root_.id R1
  have hn := dpt_int (RF0.dat (k := T.length) (v := v1) (r := ri) (by simp) b1 e2)
  subst hn
  obtain ⟨F, ρ, p', vs, qs, v, q, A⟩ := inAt_of R1.drop e1 e4
  have hpp : p' = p := by have := A.s; rw [hp] at this; cases this; rfl
  subst hpp
  obtain ⟨t, y, rfl, ht, hy⟩ : ∃ t y, v = .ref t ∧ F t = some (.tup [y, .ref q]) ∧ True := by
    obtain ⟨h2, _⟩ := A.one
    cases hx : x.1 with
    | none => rw [hx] at e5; cases e5
    | some d => rw [hx] at h2; obtain ⟨t, y, a, b, _⟩ := h2; exact ⟨t, y, a, b, trivial⟩
  exact .inl ⟨p', vs, n, .ref t, rfl, rfl, SqL.of A.o.rawL, ixN_at e3 (nits_len A.its).1 A.vat, .inr (.inl ⟨t, [y, .ref q], 1, .ref q, rfl, rfl, SqT.of (A.R.fh _ _ ht), rfl, h1 F ρ p' vs qs (.ref t) q H1 A e1⟩)⟩


/-- a statement about one of a nest -/
def mNin {α : Type} (tup : Bool) (i : Nat) (mi : M Ret) (k : Bool → List NE → Nat → NE → M α) : M α := fun E => if (nview E[i]?).isSome = true then (mi E).bind fun ri E1 => match nview E1[i]?, dat E1 ri with
  | some (b, xs), some (.int n) => (match ixN xs.length n with
    | some m => (match xs[m]? with
      | some x => if x.1.isSome = tup then k b xs m x E1 else .no
      | none => .no)
    | none => .no)
  | _, _ => .no else .no
theorem nin_run {K : PySem.W.Frag} {tup : Bool} {i : Nat} {k : Bool → List NE → Nat → NE → M Ret} {σ : L2.St} {H : Hp} {Q Q' : VK} (h : tM K cl W (mNin tup i mi k) σ H Q')
    (hk : ∀ C E1 T b xs m x F ρ p vs qs v q H1, InAt K cl C F ρ E1 T σ H1 i b xs m x p vs qs v q → nview E1[i]? = some (b, xs) → x.1.isSome = tup → Run K cl W C T σ (fun r E' => ∀ v H', Rel K cl C E' (T ++ [(v, r)]) σ H' → Bor σ v r → Q' v H') (k b xs m x E1) → Q (.ref q) H1) : tNI K cl W tup i mi σ H Q := by
  obtain ⟨C, E, T, R, h⟩ := h
  unfold mNin at h
  split at h
  case isFalse => exact h.elim
  rename_i hg
  refine ⟨C, E, T, R, hg, (Run.bind h).imp fun ri E1 h1 => ?_⟩
  split at h1
  case h_2 => exact h1.elim
  rename_i b xs n e1 e2
  split at h1
  case h_2 => exact h1.elim
  rename_i m e3
  split at h1
  case h_2 => exact h1.elim
  rename_i x e4
  split at h1
  case isFalse => exact h1.elim
  rename_i e5
  exact ⟨b, xs, n, m, x, e1, e2, e3, e4, e5, fun F ρ p vs qs v q H1 A e => hk C E1 T b xs m x F ρ p vs qs v q H1 A e e5 h1⟩
theorem InAt.ty {K : PySem.W.Frag} {C : Ctx} {F : Hp} {ρ : Own} {E : SEnv} {T : List (V × Ret)} {σ : L2.St} {H : Hp} {i : Nat} {b : Bool} {xs : List NE} {m : Nat} {x : NE} {p : Addr} {vs : List V} {qs : List Addr} {v : V} {q : Addr} (A : InAt K cl C F ρ E T σ H i b xs m x p vs qs v q) : ∃ us, H q = some (.lst us) ∧ DpAll K F us x.2 := A.one.2.1.lstL
/-- len(x) of a nest -/
def mNlen (i : Nat) : M Ret := fun E => match nview E[i]? with
  | some (_, xs) => .ok (.val (.int (xs.length : Nat))) E
  | none => .no
theorem den_nlen (i : Nat) {f x : Str} {q0 : Pos} (hg : Gl X f) (hm : X.mg f = none) (hb : bootBuiltins f = some (.builtin "len")) (hN : X.N[i]? = some x := by rfl) (hv : Vis X.env.scope x := by first | exact Or.inl rfl | exact Or.inr (Or.inl rfl) | exact Or.inr (Or.inr rfl)) (hd : (x == ("__debug__" : Str)) = false := by decide) (hcd : (x == ("__classdict__" : Str)) = false := by decide)
    (hn : f ≠ "__name__" := by decide) (hdb : (f == ("__debug__" : Str)) = false := by decide) (hs1 : starEach [.Name x p2] X.env = (false, eval (.Name x p2) X.env) :: starEach [] X.env := by rfl) (hpl : (backTo pos (starEach [] X.env)).any (·.1) = false := by rfl) :
    PE X (.Call (.Name f q0) [.Name x p2] [] pos) (tM X.K cl W (mNlen i)) := PE.imp (pe_callB call_len hg hm hb (pa_cons (pe_var hN hv hd hcd) pa_nil hs1) hn hdb hs1 hpl) fun σ H Q h => by
  obtain ⟨C, E, T, R, h⟩ := h
  unfold mNlen at h
  split at h
  · rename_i b xs e1
    obtain ⟨p, hp⟩ := nview_var R (by rw [e1]; rfl)
    obtain ⟨F, ρ, RF⟩ := _root_.id R
    cases es : E[i]? with
    | none => rw [es] at e1; cases e1
    | some s =>
      rw [es] at e1
      obtain ⟨p', z, ⟨vs, qs, h1, h2, h3, h4⟩, h5⟩ := nview_ok (RF.sl i _ s hp es) e1
      cases z
      refine ⟨_, hp, ?_⟩
      exact ⟨_, xs.length, rfl, .inl ⟨vs, SqL.of h1.rawL, (nits_len h4).1.symm⟩, h _ _ (RF.push_val (.int _)).rel trivial⟩
  · exact h.elim
/-- len of one of a nest -/
def mNlenI (tup : Bool) (i : Nat) (mi : M Ret) : M Ret := mNin tup i mi fun _ _ _ x E => .ok (.val (.int (x.2.length : Nat))) E
theorem den_nlenT (i : Nat) {f x : Str} {q0 p3 p4 p5 : Pos} {t1 : Nat} (hg : Gl X f) (hm : X.mg f = none) (hb : bootBuiltins f = some (.builtin "len")) (hi : PE X e (tM X.K cl W mi)) (hN : X.N[i]? = some x := by rfl) (hv : Vis X.env.scope x := by first | exact Or.inl rfl | exact Or.inr (Or.inl rfl) | exact Or.inr (Or.inr rfl)) (hd : (x == ("__debug__" : Str)) = false := by decide) (hcd : (x == ("__classdict__" : Str)) = false := by decide)
    (hs : PlainIx e := by exact fun _ _ => rfl) (hs2 : PlainIx (.Constant (.int 1) t1 p4) := by exact fun _ _ => rfl) (hn : f ≠ "__name__" := by decide) (hdb : (f == ("__debug__" : Str)) = false := by decide)
    (hs1 : starEach [.Subscript (.Subscript (.Name x p2) e p5) (.Constant (.int 1) t1 p4) p3] X.env = (false, eval (.Subscript (.Subscript (.Name x p2) e p5) (.Constant (.int 1) t1 p4) p3) X.env) :: starEach [] X.env := by rfl) (hpl : (backTo pos (starEach [] X.env)).any (·.1) = false := by rfl) :
    PE X (.Call (.Name f q0) [.Subscript (.Subscript (.Name x p2) e p5) (.Constant (.int 1) t1 p4) p3] [] pos) (tM X.K cl W (mNlenI true i mi)) := PE.imp (pe_callB call_len hg hm hb (pa_cons (pe_ninT i hi hN hv hd hcd hs hs2) pa_nil hs1) hn hdb hs1 hpl) fun σ H Q h => by
  change tNI X.K cl W true i mi σ H (fun y H1 => ∃ x n, [y] = [x] ∧ LenV X.K x H1 n ∧ Q (V.int n) H1)
  refine nin_run h fun C E1 T b xs m x F ρ p vs qs v q H1 A e1 e2 hr => ?_
  obtain ⟨us, h1, h2⟩ := A.ty
  exact ⟨_, x.2.length, rfl, .inl ⟨us, SqL.of h1, (dps_len h2).symm⟩, hr _ _ (A.R.push_val (.int _)).rel trivial⟩
/-- a list of a nest is changed -/
theorem InAt.put {K : PySem.W.Frag} {C : Ctx} {F : Hp} {ρ : Own} {E : SEnv} {T : List (V × Ret)} {σ : L2.St} {H : Hp} {i : Nat} {b : Bool} {xs : List NE} {m : Nat} {x : NE} {p : Addr} {vs : List V} {qs : List Addr} {v : V} {q : Addr} (A : InAt K cl C F ρ E T σ H i b xs m x p vs qs v q)
    (ev : nview E[i]? = some (b, xs)) {us : List V} {ds : List D} (h : DpAll K F us ds) : RelF K cl C F ρ (E.set i (.nst b (xs.set m (x.1, ds)))) T σ (upd H q (.lst us)) := by
  cases es : E[i]? with
  | none => rw [es] at ev; cases ev
  | some s =>
  have R := A.R
  have hne : q ≠ p := fun z => by subst z; exact (List.nodup_cons.mp A.nd).1 (List.mem_of_getElem? A.at')
  have hq2 := A.one.2.1
  have hfx : ∀ g, g ≠ Tag.s i → ∀ a o, OwnAt K F ρ H g a o → OwnAt K F ρ (upd H q (.lst us)) g a o := fun g n a o h' =>
    h'.grow (L2.Same.refl F) (fun u e => by rw [upd_ne (h'.apart hq2 n)]; exact e) h'.fn rfl
  obtain ⟨ho, e0, m0, _⟩ := _root_.id hq2
  refine (RelF.redo (T' := []) (by simpa using R) es (nview_free (by rw [es] at ev; exact ev)) (L2.Same.refl F) (fun a u e => ?_) (fun a u e l => ?_) R.hf ⟨tabs_mut R.tb.1 e0 m0, R.tb.2⟩ (fun g n _ a o h' => hfx g n a o h') fun w hw _ => ?_)
  · rw [upd_ne (ne_of_none e hq2.fn)]; exact R.fh a u e
  · rw [upd_ne (ne_of_none e A.one.2.2)]; exact R.h0 a u e l
  · have hs := A.s
    rw [hs] at hw; cases hw
    exact ⟨p, rfl, ⟨vs, qs, A.o.grow (L2.Same.refl F) (fun u e => by rw [upd_ne (Ne.symm hne)]; exact e) A.o.fn rfl, A.h0, A.nd, nits_put ⟨us, rfl, h⟩ A.its (List.nodup_cons.mp A.nd).2 A.xat A.at'⟩, A.lk⟩
/-- x[e][1].append(y) -/
noncomputable def mNapp (tup : Bool) (i : Nat) (mi : M Ret) (j : Nat) : M Ret := mNin tup i mi fun b xs m x E => match E[j]? with
  | some (.val d) => if Ok (x.2.length < big) then .ok (.val .none) (E.set i (.nst b (xs.set m (x.1, x.2 ++ [d])))) else .no
  | _ => .no
theorem napp_go {K : PySem.W.Frag} {C : Ctx} {F : Hp} {ρ : Own} {E : SEnv} {T : List (V × Ret)} {σ : L2.St} {H : Hp} {i j : Nat} {b : Bool} {xs : List NE} {m : Nat} {x : NE} {p : Addr} {vs : List V} {qs : List Addr} {v : V} {q : Addr} {Q : VK} (A : InAt K cl C F ρ E T σ H i b xs m x p vs qs v q)
    (ev : nview E[i]? = some (b, xs)) (h : Run K cl W C T σ (fun r E' => ∀ v H', Rel K cl C E' (T ++ [(v, r)]) σ H' → Bor σ v r → Q v H') (match E[j]? with
      | some (.val d) => if Ok (x.2.length < big) then .ok (.val .none) (E.set i (.nst b (xs.set m (x.1, x.2 ++ [d])))) else .no
      | _ => .no)) : ∃ y, σ[j]? = some (some y) ∧ rAppend (.ref q) [y] H Q := by
  obtain ⟨us, h1, h2⟩ := A.ty
  split at h
  · rename_i d ed
    split at h
    · rename_i hl
      obtain ⟨w, hw⟩ := slot_there A.R ed
      obtain ⟨y, rfl, hy⟩ := A.R.sl j w _ hw ed
      exact ⟨y, hw, q, us, y, rfl, rfl, h1, by rw [dps_len h2]; exact big_lt (Nat.le_of_lt hl), h _ _ ((A.put ev (dps_app h2 (.cons hy .nil))).push_val .non).rel trivial⟩
    · exact h.elim
  · exact h.elim
theorem den_nappT (i j : Nat) {x y : Str} {p3 p4 p5 p6 apos cpos : Pos} {t1 : Nat} (hi : PE X e (tM X.K cl W mi)) (hN : X.N[i]? = some x := by rfl) (hv : Vis X.env.scope x := by first | exact Or.inl rfl | exact Or.inr (Or.inl rfl) | exact Or.inr (Or.inr rfl)) (hd : (x == ("__debug__" : Str)) = false := by decide) (hcd : (x == ("__classdict__" : Str)) = false := by decide)
    (hN2 : X.N[j]? = some y := by rfl) (hv2 : Vis X.env.scope y := by first | exact Or.inl rfl | exact Or.inr (Or.inl rfl) | exact Or.inr (Or.inr rfl)) (hd2 : (y == ("__debug__" : Str)) = false := by decide) (hcd2 : (y == ("__classdict__" : Str)) = false := by decide)
    (hs : PlainIx e := by exact fun _ _ => rfl) (hs2 : PlainIx (.Constant (.int 1) t1 p4) := by exact fun _ _ => rfl)
    (hbase : attributeBase (.Subscript (.Subscript (.Name x p2) e p5) (.Constant (.int 1) t1 p4) p3) "append" X.env (eval (.Subscript (.Subscript (.Name x p2) e p5) (.Constant (.int 1) t1 p4) p3) X.env) = eval (.Subscript (.Subscript (.Name x p2) e p5) (.Constant (.int 1) t1 p4) p3) X.env := by rfl)
    (hfew : ((backTo cpos (starEach [.Name y p6] X.env)).all (fun x => !x.1) && (backToKw cpos (keywordEach [] X.env)).all (fun x => x.1.isSome)
      && decide ([Expr.Name y p6].length + ([] : List Keyword).length + (if ([] : List Keyword).isEmpty then 0 else 1) < 30)) = true := by rfl)
    (hline : (apos.endLine == cpos.line) = true := by rfl) (hsa : starEach [.Name y p6] X.env = (false, eval (.Name y p6) X.env) :: starEach [] X.env := by rfl) (hplain : (backTo cpos (starEach [] X.env)).any (·.1) = false := by rfl) :
    PE X (.Call (.Attribute (.Subscript (.Subscript (.Name x p2) e p5) (.Constant (.int 1) t1 p4) p3) "append" apos) [.Name y p6] [] cpos) (tM X.K cl W (mNapp true i mi j)) :=
  PE.imp (pe_bm F.plainAttrs_list PySem.F.slot_list_append PySem.F.type_list_append mt_append (pe_ninT i hi hN hv hd hcd hs hs2) (pa_cons (pe_var hN2 hv2 hd2 hcd2) pa_nil hsa) hbase hfew hline hsa hplain) fun σ H Q h => by
  refine nin_run h fun C E1 T b xs m x F ρ p vs qs v q H1 A e1 e2 hr => ?_
  obtain ⟨us, h1, h2⟩ := A.ty
  obtain ⟨y, hy, h3⟩ := napp_go A e1 hr
  exact ⟨.inl ⟨rfl, us, SqL.of h1⟩, y, hy, h3⟩
end
end MP

open PySem PySem.Spec L2
namespace MP
section
variable {X : Cx} {cl : Cl} {W : WX} {e : Expr} {es : List Expr} {pos p2 : Pos} {ms : M (List Ret)}
/-- x.append((e, [..])) -/
noncomputable def mNpush (i : Nat) (ms : M (List Ret)) : M Ret := fun E => if (nview E[i]?).isSome = true then (ms E).bind fun rs E1 => match rs with
  | [r1, .own (.lst ds)] => (match take E1 r1 with
    | some (d, E2) => (match nview E2[i]? with
      | some (b, xs) => if Ok (xs.length < big) then .ok (.val .none) (E2.set i (.nst b (xs ++ [(some d, ds)]))) else .no
      | none => .no)
    | none => .no)
  | _ => .no else .no
theorem den_npush (i : Nat) {x : Str} {apos cpos : Pos} {t0 : Nat} (ha : PA X es (tMA X.K cl W ms)) (hN : X.N[i]? = some x := by rfl) (hv : Vis X.env.scope x := by first | exact Or.inl rfl | exact Or.inr (Or.inl rfl) | exact Or.inr (Or.inr rfl)) (hd : (x == ("__debug__" : Str)) = false := by decide) (hcd : (x == ("__classdict__" : Str)) = false := by decide)
    (hbase : attributeBase (.Name x p2) "append" X.env (eval (.Name x p2) X.env) = eval (.Name x p2) X.env := by rfl)
    (hfew : ((backTo cpos (starEach [.Tuple es t0 pos] X.env)).all (fun x => !x.1) && (backToKw cpos (keywordEach [] X.env)).all (fun x => x.1.isSome)
      && decide ([Expr.Tuple es t0 pos].length + ([] : List Keyword).length + (if ([] : List Keyword).isEmpty then 0 else 1) < 30)) = true := by rfl)
    (hline : (apos.endLine == cpos.line) = true := by rfl) (hsa : starEach [.Tuple es t0 pos] X.env = (false, eval (.Tuple es t0 pos) X.env) :: starEach [] X.env := by rfl) (hplain : (backTo cpos (starEach [] X.env)).any (·.1) = false := by rfl) :
    PE X (.Call (.Attribute (.Name x p2) "append" apos) [.Tuple es t0 pos] [] cpos) (tM X.K cl W (mNpush i ms)) :=
  PE.imp (pe_bm F.plainAttrs_list PySem.F.slot_list_append PySem.F.type_list_append mt_append (pe_var hN hv hd hcd) (pa_cons (pe_tup ha) pa_nil hsa) hbase hfew hline hsa hplain) fun σ H Q h => by
  obtain ⟨C, E, T, R, h⟩ := h
  unfold mNpush at h
  split at h
  case isFalse => exact h.elim
  rename_i hg
  obtain ⟨p, hp⟩ := nview_var R hg
  have hty : ∃ us, H p = some (.lst us) := by
    obtain ⟨F, ρ, RF⟩ := _root_.id R
    obtain ⟨⟨b, xs⟩, h⟩ := Option.isSome_iff_exists.mp hg
    cases es : E[i]? with
    | none => rw [es] at h; cases h
    | some s =>
      rw [es] at h
      obtain ⟨p', z, ⟨vs, qs, h1, _⟩, _⟩ := nview_ok (RF.sl i _ s hp es) h
      cases z
      exact ⟨vs, h1.rawL⟩
  obtain ⟨us0, hus0⟩ := hty
  refine ⟨_, hp, .inl ⟨rfl, us0, SqL.of hus0⟩, C, E, T, R, (Run.bind h).imp fun rs E1 h1 vs H1 R1 b1 => ?_⟩
  split at h1
  case h_2 => exact h1.elim
  rename_i r1 ds
  split at h1
  case h_2 => exact h1.elim
  rename_i d E2 et
  split at h1
  case h_2 => exact h1.elim
  rename_i b xs ev
  split at h1
  case isFalse => exact h1.elim
  rename_i hl
  have hvl := bors_len b1
  obtain ⟨v1, v2, rfl⟩ : ∃ v1 v2, vs = [v1, v2] := by
    match vs, hvl with
    | [a, c], _ => exact ⟨a, c, rfl⟩
  obtain ⟨F1, ρ, RF1⟩ := R1
  obtain ⟨F2, f2, R2, hd1⟩ := RelF.take (T := T) (T2 := [(v2, .own (.lst ds))]) (by simpa using RF1) b1.1 et
  obtain ⟨q, rfl, hq, hq0⟩ : ∃ q, v2 = .ref q ∧ OwnAt X.K F2 ρ H1 (.t (T.length + 1)) q (.lst ds) ∧ C.H0 q = none := R2.tm (T.length + 1) v2 (.own (.lst ds)) (by simp)
  refine ⟨by show 2 ≤ _; exact le1000 (by omega), fun t ht => ?_⟩
  obtain ⟨R3, f3⟩ := R2.lay ht (.tup [v1, .ref q])
  cases es : E2[i]? with
  | none => rw [es] at ev; cases ev
  | some s =>
  rw [es] at ev
  obtain ⟨p', z, ⟨vs, qs, o1, o2, o3, o4⟩, o5⟩ := nview_ok (R3.sl i _ s hp es) ev
  cases z
  have hqt : q ≠ t := hq.ne ht
  have hq3 : OwnAt X.K (upd F2 t (.tup [v1, .ref q])) ρ (upd H1 t (.tup [v1, .ref q])) (.t (T.length + 1)) q (.lst ds) := hq.grow f3 (fun u e => by rw [upd_ne hqt]; exact e) (by rw [upd_ne hqt]; exact hq.fn) rfl
  have hpq : p ≠ q := o1.apart hq3 (fun z => by cases z)
  have hqn : ∀ a ∈ p :: qs, a ≠ q := fun a ha => by
    cases ha with
    | head => exact hpq
    | tail _ ha =>
      obtain ⟨ds', h', _⟩ := nits_mem o4 ha
      exact h'.apart hq3 (fun z => by cases z)
  have hlen := (nits_len o4).1
  refine ⟨p, vs, .ref t, rfl, rfl, o1.rawL, by rw [hlen]; exact big_lt (Nat.le_of_lt hl), h1 _ _ ?_ trivial⟩
  have keep : ∀ g, (∀ k, g = Tag.t k → k < T.length) → ∀ a o, OwnAt X.K (upd F2 t (.tup [v1, .ref q])) ρ (upd H1 t (.tup [v1, .ref q])) g a o → a ≠ p → OwnAt X.K (upd F2 t (.tup [v1, .ref q])) (fun a => if a = q then some (.s i) else ρ a) (upd (upd H1 t (.tup [v1, .ref q])) p (.lst (vs ++ [.ref t]))) g a o := fun g hg a o h' n => by
    refine h'.grow (L2.Same.refl _) (fun u e => by rw [upd_ne n]; exact e) h'.fn (if_neg ?_)
    exact h'.apart hq3 fun z => by have := hg _ z; omega
  obtain ⟨ho, e0, m0, _⟩ := _root_.id o1
  have RR := RelF.redo (T := T) (T' := [(v1, .val d), (.ref q, .own (.lst ds))]) (ρ' := fun a => if a = q then some (.s i) else ρ a) (H' := upd (upd H1 t (.tup [v1, .ref q])) p (.lst (vs ++ [.ref t]))) (s' := .nst b (xs ++ [(some d, ds)])) R3 es (nview_free ev) (L2.Same.refl _)
    (fun a u e => by rw [upd_ne (ne_of_none e o1.fn)]; exact R3.fh a u e) (fun a u e l => by rw [upd_ne (ne_of_none e o2)]; exact R3.h0 a u e l) R3.hf ⟨tabs_mut R3.tb.1 e0 m0, R3.tb.2⟩
    (fun g n hk a o h' => keep g hk a o h' (h'.apart o1 n)) (fun w hw _ => by
      rw [hp] at hw; cases hw
      refine ⟨p, rfl, ⟨vs ++ [.ref t], qs ++ [q], ⟨_, upd_same, ⟨_, rfl, rfl⟩, o1.fn, (if_neg hpq).trans o1.tag⟩, o2, ?_, nits_snoc ?_ ?_⟩, o5⟩
      · show (p :: (qs ++ [q])).Nodup
        rw [← List.cons_append]
        exact List.nodup_append.mpr ⟨o3, by simp, fun a ha c hc => by
          rw [List.mem_singleton] at hc
          rw [hc]; exact hqn a ha⟩
      · refine nits_chg (L2.Same.refl _) (fun a ha o h' h0 => ⟨?_, h0⟩) o4
        exact h'.grow (L2.Same.refl _) (fun u e => by rw [upd_ne (fun z => (List.nodup_cons.mp o3).1 (by rw [← z]; exact ha))]; exact e) h'.fn (if_neg (hqn a (List.mem_cons_of_mem _ ha)))
      · refine ⟨⟨t, v1, rfl, upd_same, dp_mono f3 hd1⟩, ?_, hq0⟩
        obtain ⟨ho, e1, m1, e2, _⟩ := hq3
        exact ⟨ho, by rw [upd_ne (Ne.symm hpq)]; exact e1, m1, e2, if_pos rfl⟩)
  exact (RR.push_val .non).rel
/-- y, z = x.pop() -/
def mNpop (i j k : Nat) : M Fl := fun E => match nview E[i]?, E[j]?, E[k]? with
  | some (b, xs), some sj, some sk => if sj.free = true ∧ sk.free = true ∧ i ≠ j ∧ i ≠ k ∧ j ≠ k then (match xs.getLast? with
    | some (some d, ds) => .ok .nx (((E.set i (.nst b xs.dropLast)).set j (.val d)).set k (.own (.lst ds)))
    | _ => .no) else .no
  | _, _, _ => .no
theorem den_npop (i j k : Nat) {x y z : Str} {p3 p4 p5 apos cpos : Pos} {t0 : Nat} (hN0 : X.N.Nodup) (hc : X.calm = true) (hN : X.N[i]? = some x := by rfl) (hNy : X.N[j]? = some y := by rfl) (hNz : X.N[k]? = some z := by rfl) (hv : Vis X.env.scope x := by first | exact Or.inl rfl | exact Or.inr (Or.inl rfl) | exact Or.inr (Or.inr rfl)) (hd : (x == ("__debug__" : Str)) = false := by decide) (hcd : (x == ("__classdict__" : Str)) = false := by decide)
    (hy : Loc X.env.scope y := by first | exact Or.inl rfl | exact Or.inr rfl) (hz : Loc X.env.scope z := by first | exact Or.inl rfl | exact Or.inr rfl) (hfy : X.fn y = true ∨ X.env.scope.names.lookup y = some .local := by first | exact .inl rfl | exact .inr rfl) (hfz : X.fn z = true ∨ X.env.scope.names.lookup z = some .local := by first | exact .inl rfl | exact .inr rfl)
    (hbase : attributeBase (.Name x p2) "pop" X.env (eval (.Name x p2) X.env) = eval (.Name x p2) X.env := by rfl) (hline : (apos.endLine == cpos.line) = true := by rfl)
    (hn : (assignEach [.Name y p3, .Name z p4] X.env).length = 2 := by rfl) (hst : (assignEach [.Name y p3, .Name z p4] X.env).findIdx? (·.1) = none := by rfl)
    (hs1 : (assignEach [.Name y p3, .Name z p4] X.env).map (·.2) = assign (.Name y p3) X.env :: (assignEach [.Name z p4] X.env).map (·.2) := by rfl) (hs2 : (assignEach [.Name z p4] X.env).map (·.2) = assign (.Name z p4) X.env :: (assignEach [] X.env).map (·.2) := by rfl)
    (hs : swapsWithSole [.Tuple [.Name y p3, .Name z p4] t0 p5] (.Call (.Attribute (.Name x p2) "pop" apos) [] [] cpos) pos.line X.env = pure false := by rfl) (hw : swappedStores [.Tuple [.Name y p3, .Name z p4] t0 p5] (.Call (.Attribute (.Name x p2) "pop" apos) [] [] cpos) X.env = pure none := by rfl)
    (h1 : (assignEach [.Tuple [.Name y p3, .Name z p4] t0 p5] X.env).map (·.2) = [assign (.Tuple [.Name y p3, .Name z p4] t0 p5) X.env] := by rfl) :
    PS X (.Assign [.Tuple [.Name y p3, .Name z p4] t0 p5] (.Call (.Attribute (.Name x p2) "pop" apos) [] [] cpos) pos) (tMS X.K cl W (mNpop i j k)) :=
  PS.imp (ps_asg (pe_bm0 F.plainAttrs_list PySem.F.slot_list_pop PySem.F.type_list_pop mt_pop (pe_var hN hv hd hcd) hbase hline) (pg_tup hc (pgs_cons (pg_name hN0 hNy hy hfy) (pgs_cons (pg_name hN0 hNz hz hfz) pgs_nil hs2) hs1) hn hst) hs hw h1) fun D σ H h => by
  obtain ⟨C, E, T, ⟨F, ρ, R⟩, h⟩ := h
  unfold mNpop at h
  split at h
  case h_2 => exact h.elim
  rename_i b xs sj sk ev ej ek
  split at h
  case isFalse => exact h.elim
  rename_i hf
  obtain ⟨fj, fk, nij, nik, njk⟩ := hf
  split at h
  case h_2 => exact h.elim
  rename_i d ds el
  obtain ⟨p, hp⟩ := nview_var R.rel (by rw [ev]; rfl)
  cases es : E[i]? with
  | none => rw [es] at ev; cases ev
  | some s =>
  rw [es] at ev
  obtain ⟨p', z', ⟨vs, qs, o1, o2, o3, o4⟩, o5⟩ := nview_ok (R.sl i _ s hp es) ev
  cases z'
  obtain ⟨ys, rfl⟩ : ∃ ys, xs = ys ++ [(some d, ds)] := by
    obtain ⟨ys, e⟩ := List.getLast?_eq_some_iff.mp el
    exact ⟨ys, e⟩
  obtain ⟨vs, v, qs, q, rfl, rfl, o6, o7⟩ := nits_unsnoc o4
  obtain ⟨⟨t, w, rfl, ht, hw1⟩, o8, o9⟩ := o7
  refine ⟨_, hp, .inl ⟨rfl, _, SqL.of o1.rawL⟩, p, _, .ref t, rfl, rfl, o1.rawL, by simp, ?_⟩
  rw [List.dropLast_concat]
  rw [List.dropLast_concat] at h
  have hqn : ∀ a ∈ p :: qs, a ≠ q := fun a ha => by
    have := (List.nodup_append.mp (show ((p :: qs) ++ [q]).Nodup from o3)).2.2 a ha q (by simp)
    exact this
  have nd' : (p :: qs).Nodup := (List.nodup_append.mp (show ((p :: qs) ++ [q]).Nodup from o3)).1
  have htp : t ≠ p := fun z => by rw [z, o1.fn] at ht; cases ht
  obtain ⟨ho, e0, m0, _⟩ := _root_.id o1
  have R1 := RelF.redo (T := T) (T' := []) (ρ' := fun a => if a = q then none else ρ a) (H' := upd H p (.lst vs)) (s' := .nst b ys) (by simpa using R) es (nview_free ev) (L2.Same.refl F)
    (fun a u e => by rw [upd_ne (ne_of_none e o1.fn)]; exact R.fh a u e) (fun a u e l => by rw [upd_ne (ne_of_none e o2)]; exact R.h0 a u e l) R.hf ⟨tabs_mut R.tb.1 e0 m0, R.tb.2⟩
    (fun g n hk a o h' => h'.grow (L2.Same.refl F) (fun u e => by rw [upd_ne (h'.apart o1 n)]; exact e) h'.fn (if_neg (h'.apart o8 n))) (fun w' hw' _ => by
      rw [hp] at hw'; cases hw'
      refine ⟨p, rfl, ⟨vs, qs, ⟨_, upd_same, ⟨_, rfl, rfl⟩, o1.fn, (if_neg (hqn p List.mem_cons_self)).trans o1.tag⟩, o2, nd', ?_⟩, o5⟩
      refine nits_chg (L2.Same.refl F) (fun a ha o h' h0 => ⟨?_, h0⟩) o6
      exact h'.grow (L2.Same.refl F) (fun u e => by rw [upd_ne (fun z => (List.nodup_cons.mp nd').1 (by rw [← z]; exact ha))]; exact e) h'.fn (if_neg (hqn a (List.mem_cons_of_mem _ ha))))
  have hpq : p ≠ q := hqn p List.mem_cons_self
  have R2 := R1.put_slot (i := j) (v := w) (s' := .val d) (by rw [List.getElem?_set_ne nij]; exact ej) fj (L2.Same.refl F) R1.fh R1.hf R1.tb.2 (fun _ _ _ _ h => .inr h) ⟨w, rfl, hw1⟩
  have R3 := R2.put_slot (i := k) (v := .ref q) (ρ' := fun a => if a = q then some (.s k) else if a = q then none else ρ a) (s' := .own (.lst ds)) (by rw [List.getElem?_set_ne njk, List.getElem?_set_ne nik]; exact ek) fk (L2.Same.refl F) R2.fh R2.hf R2.tb.2 (fun g n a o h' => .inr ?_) ⟨q, rfl, ?_, o9⟩
  · refine ⟨t, [w, .ref q], rfl, SqT.of (by rw [upd_ne htp]; exact R.fh _ _ ht), rfl, w, [.ref q], rfl, .ref q, [], rfl, rfl, ?_⟩
    exact h _ _ R3.rel
  · have hne : a ≠ q := fun z => by
      have := h'.tag
      rw [if_pos z] at this
      cases this
    exact h'.grow (L2.Same.refl F) (fun _ e => e) h'.fn (if_neg hne)
  · obtain ⟨ho2, e1, m1, e2, _⟩ := o8
    exact ⟨ho2, by rw [upd_ne (Ne.symm hpq)]; exact e1, m1, e2, if_pos rfl⟩
end
end MP

open PySem PySem.Spec L2
namespace MP
/-! ### a nest goes to a def and comes back -/
theorem nits_tag {K : PySem.W.Frag} {F F' : Hp} {ρ ρ' : Own} {H H' H0 H0' : Hp} {g g' : Tag} (e : Same F F') : ∀ {vs : List V} {qs : List Addr} {xs : List NE}, (∀ q ∈ qs, ∀ o, OwnAt K F ρ H g q o → H0 q = none → OwnAt K F' ρ' H' g' q o ∧ H0' q = none) → NIts K F ρ H0 H g vs qs xs → NIts K F' ρ' H0' H' g' vs qs xs
  | [], [], [], _, _ => trivial
  | _ :: _, q :: qs, _ :: _, hq, ⟨⟨h1, h2, h3⟩, h4⟩ => ⟨⟨h1.mono e, hq q List.mem_cons_self _ h2 h3⟩, nits_tag e (fun q hm => hq q (List.mem_cons_of_mem _ hm)) h4⟩
/-- an own object, whoever's -/
def OwnN (K : PySem.W.Frag) (F H : Hp) (p : Addr) (o : MO) : Prop := OwnAt K F (fun _ => some (.s 0)) H (.s 0) p o
def NItsN (K : PySem.W.Frag) (F H : Hp) (vs : List V) (qs : List Addr) (xs : List NE) : Prop := NIts K F (fun _ => some (.s 0)) (fun _ => none) H (.s 0) vs qs xs
theorem OwnAt.toN {K : PySem.W.Frag} {F : Hp} {ρ : Own} {H : Hp} {g : Tag} {q : Addr} {o : MO} (h : OwnAt K F ρ H g q o) : OwnN K F H q o := let ⟨ho, e, m, f, _⟩ := h; ⟨ho, e, m, f, rfl⟩
theorem OwnN.to {K : PySem.W.Frag} {F : Hp} {ρ : Own} {H : Hp} {g : Tag} {q : Addr} {o : MO} (h : OwnN K F H q o) (t : ρ q = some g) : OwnAt K F ρ H g q o := let ⟨ho, e, m, f, _⟩ := h; ⟨ho, e, m, f, t⟩
/-- a def's promise by a function of the data ahead, of the nest and of the data behind -/
def spN (K : PySem.W.Frag) (cl : Cl) (k : Nat) (g : List D → List NE → List D → Option (D × List NE)) : Sp := fun vs H Q Ex => ∃ (F0 : Hp) (xs : List NE) (ds1 ds2 : List D) (p : Addr) (us : List V) (qs : List Addr) (v1 v2 : List V), TOk cl.T F0 H ∧ v1.length = k ∧ vs = v1 ++ .ref p :: v2 ∧
  OwnN K F0 H p (.raw us) ∧ (p :: qs).Nodup ∧ NItsN K F0 H us qs xs ∧ Same F0 H ∧ DpAll K F0 v1 ds1 ∧ DpAll K F0 v2 ds2 ∧ match g ds1 xs ds2 with
  | some (d, xs') => ∀ (v : V) (H' F' : Hp) (us' : List V) (qs' : List Addr), (∀ a o, a ∉ p :: qs → noT cl.T H a = some o → H' a = some o) → LamX.Tabs cl.T H' → OwnN K F' H' p (.raw us') → (p :: qs').Nodup → NItsN K F' H' us' qs' xs' → (∀ a ∈ qs', a ∈ qs ∨ H a = none) →
      Same F0 F' → Same F' H' → (∀ a o, a ∉ p :: qs → H a = some o → F' a = F0 a) → Dp K F' v d → Q v H'
  | none => False
def endN (k : Nat) (E : SEnv) (d : D) : Option (D × List NE) := match (E[k]? : Option MP.Slot) with
  | some (.nst true xs) => some (d, xs)
  | _ => none
def runDefN (k np n : Nat) (m : M Fl) (ds1 : List D) (xs : List NE) (ds2 : List D) : Option (D × List NE) := if ds1.length = k ∧ ds1.length + ds2.length + 1 = np then (match m (ds1.map Slot.val ++ .nst true xs :: (ds2.map Slot.val ++ List.replicate (n - np) .un)) with
  | .ok (.rt r) E => (match convL E r with
    | some d => endN k E d
    | none => none)
  | .ok .nx E => endN k E .none
  | _ => none) else none
theorem start_relN {K : PySem.W.Frag} {cl : Cl} {F0 H : Hp} {p : Addr} {us : List V} {qs : List Addr} {xs : List NE} {v1 v2 : List V} {ds1 ds2 : List D} {N : List Str} (ht : TOk cl.T F0 H) (hp : OwnN K F0 H p (.raw us)) (nd : (p :: qs).Nodup) (hi : NItsN K F0 H us qs xs) (hs : Same F0 H) (h1 : DpAll K F0 v1 ds1) (h2 : DpAll K F0 v2 ds2) :
    RelF K cl ⟨fun a => if a ∈ p :: qs then none else noT cl.T H a, F0, fun _ => none, fun i => if i = v1.length then some p else none⟩ F0 (fun q => if q ∈ p :: qs then some (.s v1.length) else none) (ds1.map Slot.val ++ .nst true xs :: (ds2.map Slot.val ++ List.replicate (N.length - (v1.length + v2.length + 1)) .un)) [] (L2.start N (v1 ++ .ref p :: v2)) H where
  len := by unfold L2.start; simp [dps_len h1, dps_len h2]; omega
  f0 := L2.Same.refl F0
  fh := hs
  h0 := fun a o e _ => by
    dsimp only at e
    split at e
    · cases e
    · exact noT_sub a o e
  hf := fun _ _ _ => rfl
  tb := ht
  nt := fun a ha => by
    dsimp only
    split
    · rfl
    · exact if_pos ha
  sl := fun i v s e1 e2 => by
    have l1 := dps_len h1
    have l2 := dps_len h2
    rcases Nat.lt_trichotomy i v1.length with hi2 | hi2 | hi2
    · rw [List.getElem?_append_left (by rw [List.length_map, ← l1]; exact hi2), List.getElem?_map] at e2
      rw [start_at (by simp; omega), List.getElem_append_left hi2] at e1
      cases e1
      obtain ⟨d, q2, h⟩ := dps_getV h1 (List.getElem?_eq_getElem hi2)
      rw [q2] at e2
      cases e2
      exact ⟨_, rfl, h⟩
    · subst hi2
      have eE : (ds1.map Slot.val ++ MP.Slot.nst true xs :: (ds2.map Slot.val ++ List.replicate (N.length - (v1.length + v2.length + 1)) .un))[v1.length]? = some (.nst true xs) := by
        rw [List.getElem?_append_right (by rw [List.length_map, l1]; exact Nat.le_refl _), List.length_map, l1, Nat.sub_self]; rfl
      rw [eE] at e2
      cases e2
      rw [start_at (by simp), List.getElem_append_right (Nat.le_refl _)] at e1
      simp only [Nat.sub_self, List.getElem_cons_zero] at e1
      cases e1
      exact ⟨p, rfl, ⟨us, qs, hp.to (if_pos List.mem_cons_self), if_pos List.mem_cons_self, nd, nits_tag (L2.Same.refl _) (fun q hq o h _ => ⟨h.toN.to (if_pos (List.mem_cons_of_mem _ hq)), if_pos (List.mem_cons_of_mem _ hq)⟩) hi⟩, fun _ => if_pos rfl⟩
    · obtain ⟨j, rfl⟩ : ∃ j, i = v1.length + 1 + j := ⟨i - (v1.length + 1), by omega⟩
      have eE : (ds1.map Slot.val ++ MP.Slot.nst true xs :: (ds2.map Slot.val ++ List.replicate (N.length - (v1.length + v2.length + 1)) .un))[v1.length + 1 + j]? = (ds2.map Slot.val ++ List.replicate (N.length - (v1.length + v2.length + 1)) .un)[j]? := by
        rw [List.getElem?_append_right (by rw [List.length_map, l1]; omega), List.length_map, ← l1, show v1.length + 1 + j - v1.length = j + 1 by omega, List.getElem?_cons_succ]
      rw [eE] at e2
      rcases Nat.lt_or_ge j v2.length with hj | hj
      · rw [List.getElem?_append_left (by rw [List.length_map, ← l2]; exact hj), List.getElem?_map] at e2
        rw [start_at (by simp; omega), List.getElem_append_right (by omega)] at e1
        simp only [show v1.length + 1 + j - v1.length = j + 1 by omega, List.getElem_cons_succ] at e1
        cases e1
        obtain ⟨d, q2, h⟩ := dps_getV h2 (List.getElem?_eq_getElem hj)
        rw [q2] at e2
        cases e2
        exact ⟨_, rfl, h⟩
      · rw [List.getElem?_append_right (by rw [List.length_map, ← l2]; exact hj)] at e2
        have : s = .un := by
          obtain ⟨_, e3⟩ := List.getElem?_eq_some_iff.mp e2
          rw [List.getElem_replicate] at e3
          exact e3.symm
        subst this
        trivial
  ln := fun i q e => by cases e
  tm := fun k v r e => by simp at e
theorem spN_len {K : PySem.W.Frag} {cl : Cl} {k np n : Nat} {m : M Fl} {vs : List V} {H : Hp} {Q : VK} {E : XK} (h : spN K cl k (runDefN k np n m) vs H Q E) : vs.length = np := by
  obtain ⟨F0, xs, ds1, ds2, p, us, qs, v1, v2, ht, hk, rfl, _, _, _, _, h1, h2, h⟩ := h
  rw [List.length_append, List.length_cons, dps_len h1, dps_len h2]
  by_cases e : ds1.length = k ∧ ds1.length + ds2.length + 1 = np
  · omega
  · have : runDefN k np n m ds1 xs ds2 = none := if_neg e
    rw [this] at h
    exact h.elim
section
variable {P : Program} {w : World} {K : PySem.W.Frag} {mg : Str → Option Value} {base : Heap} {cl : Cl}
theorem den_defN2 (kk : Nat) {x qual : Str} {st : Stmt} {f : Addr} {fd : FuncData} {N ps : List Str} {k : Nat} {m : M Fl} (F : Fun K x qual st f fd) (S : FnScope N ps (defScope st))
    (hbody : ∀ (cdv : Value) (A : Around) (outer : List Env) (s : Shared) (H : Hp) (E : XK), Room k (A.deeper (PyProof.Rows.envOfC qual (defScope st) s.heap.objs.size f cdv)) →
      PSs (cxOf (L2.CX P w) P w K mg base N qual (defScope st) f cdv A outer s H E) (defBody st) (tMS K cl (fun c d _ H => E c d H) m)) : FnOk P w K mg base (L2.CX P w) (k + 1) f fd ps (spN K cl kk (runDefN kk ps.length N.length m)) := by
  refine F.okX S (fun vs H Q E h => spN_len h) (fun cdv A outer s H vs Q E hr h => ⟨_, hbody cdv A outer s H E hr, ?_⟩)
  have hlen := spN_len h
  obtain ⟨F0, xs, ds1, ds2, p, us, qs, v1, v2, ht, hk, rfl, hp, nd, hi, hs, h1, h2, h⟩ := h
  have R := start_relN (cl := cl) (N := N) ht hp nd hi hs h1 h2
  have hlen' : v1.length + v2.length + 1 = ps.length := by rw [← hlen, List.length_append, List.length_cons]; omega
  rw [hlen'] at R
  refine ⟨_, _, [], R.rel, ?_⟩
  unfold runDefN at h
  have l1 := dps_len h1
  have l2 := dps_len h2
  rw [if_pos ⟨by omega, by omega⟩] at h
  cases q : m (ds1.map Slot.val ++ .nst true xs :: (ds2.map Slot.val ++ List.replicate (N.length - ps.length) .un)) with
  | no => rw [q] at h; exact h.elim
  | ex x E1 => rw [q] at h; exact h.elim
  | ok fl E1 =>
    rw [q] at h
    have fin : ∀ {d : D} {F' : Hp} {ρ' : Own} {T' : List (V × Ret)} {σ' : L2.St} {H' : Hp} {v : V}, RelF K cl ⟨fun a => if a ∈ p :: qs then none else noT cl.T H a, F0, fun _ => none, fun i => if i = v1.length then some p else none⟩ F' ρ' E1 T' σ' H' → Dp K F' v d →
        (match endN kk E1 d with
        | some (d, xs') => ∀ (v : V) (H' F' : Hp) (us' : List V) (qs' : List Addr), (∀ a o, a ∉ p :: qs → noT cl.T H a = some o → H' a = some o) → LamX.Tabs cl.T H' → OwnN K F' H' p (.raw us') → (p :: qs').Nodup → NItsN K F' H' us' qs' xs' → (∀ a ∈ qs', a ∈ qs ∨ H a = none) →
            Same F0 F' → Same F' H' → (∀ a o, a ∉ p :: qs → H a = some o → F' a = F0 a) → Dp K F' v d → Q v H'
        | none => False) → Q v H' := fun {d F' ρ' T' σ' H' v} R' hv h => by
      cases q0 : E1[kk]? with
      | none => unfold endN at h; rw [q0] at h; exact h.elim
      | some s0 =>
        unfold endN at h
        rw [q0] at h
        split at h
        case h_2 => exact h.elim
        rename_i d2 xs2 eq0
        split at eq0
        case h_2 => cases eq0
        rename_i xs' z
        cases z
        cases eq0
        obtain ⟨w, hw⟩ := slot_there R' q0
        obtain ⟨p', rfl, ⟨us', qs', o1, o2, o3, o4⟩, o5⟩ := R'.sl kk w _ hw q0
        have hpp : p' = p := by
          have := o5 rfl
          dsimp only at this
          rw [if_pos hk.symm] at this
          exact (Option.some.inj this).symm
        subst hpp
        refine h v H' F' us' qs' (fun a o hn e => R'.h0 a o (by dsimp only; rw [if_neg hn]; exact e) (fun i z => by cases z)) R'.tb.1 o1.toN o3 (nits_tag (L2.Same.refl _) (fun q _ o h _ => ⟨h.toN, rfl⟩) o4) (fun a ha => ?_) R'.f0 R'.fh (fun a o hn e => ?_) hv
        · obtain ⟨ds, g1, g2⟩ := nits_mem o4 ha
          dsimp only at g2
          by_cases hm : a ∈ p' :: qs
          · rcases List.mem_cons.mp hm with z | z
            · subst z; exact absurd ha (List.nodup_cons.mp o3).1
            · exact .inl z
          · rw [if_neg hm] at g2
            obtain ⟨ho, e1, ⟨vs2, rfl, _⟩, _⟩ := g1
            exact .inr (noT_none R'.tb.1 g2 e1 fun _ z => by cases z)
        · by_cases ha : a ∈ cl.T.map (·.1)
          · rw [R'.tb.2 a ha, ht.2 a ha]
          · exact R'.hf a o (by dsimp only; rw [if_neg hn, noT_at ha]; exact e)
    cases fl with
    | bk => exact h.elim
    | ct => exact h.elim
    | nx =>
      intro σ' H' ⟨F', ρ', R'⟩
      exact fin R' .non h
    | rt r =>
      intro v σ' H' ⟨F', ρ', R'⟩ bo
      dsimp only at h
      cases qc : convL E1 r with
      | none => rw [qc] at h; exact h.elim
      | some dv =>
        rw [qc] at h
        have hv : Dp K F' v dv := by
          cases r with
          | val x' => cases qc; exact R'.tm 0 v _ rfl
          | own o => cases qc
          | bor i =>
            unfold convL at qc
            dsimp only at qc
            split at qc
            · rename_i x e3
              cases qc
              obtain ⟨y, z1, z2⟩ := R'.sl i _ _ (show σ'[i]? = some (some v) from bo) e3
              cases z1
              exact z2
            · cases qc
        exact fin R' hv h
end
theorem fnok_noN {P : Program} {w : World} {K : PySem.W.Frag} {cl : Cl} {mg : Str → Option Value} {base : Heap} {CX : CXT} {k kk : Nat} {f : Addr} {fd : FuncData} {ps : List Str} : FnOk P w K mg base CX k f fd ps (spN K cl kk fun _ _ _ => none) :=
  ⟨fun vs H Q E ⟨_, _, _, _, _, _, _, _, _, _, _, _, _, _, _, _, _, _, h⟩ => h.elim, fun A outer s H args us vs Q E _ _ _ _ ⟨_, _, _, _, _, _, _, _, _, _, _, _, _, _, _, _, _, _, h⟩ => h.elim⟩
/-- f(.., nest, ..) -/
def mCallN (k : Nat) (g : List D → List NE → List D → Option (D × List NE)) (ms : M (List Ret)) : M Ret := fun E => (ms E).bind fun rs E1 => match rs.drop k with
  | .bor i :: r2 => (match takes E1 (rs.take k ++ r2) with
    | some (ds, E2) => (match nview E2[i]? with
      | some (b, xs) => (match g (ds.take k) xs (ds.drop k) with
        | some (d, xs') => .ok (.val d) (E2.set i (.nst b xs'))
        | none => .no)
      | none => .no)
    | none => .no)
  | _ => .no
section
variable {X : Cx} {cl : Cl} {W : WX} {es : List Expr} {x : Str} {p pos : Pos} {ms : M (List Ret)} {g : List D → List NE → List D → Option (D × List NE)} {k kk : Nat} {f : Addr} {fd : FuncData} {ps : List Str}
theorem den_callN2 (kk : Nat) (F : FnOk X.prog X.w X.K X.mg X.base (L2.CX X.prog X.w) k f fd ps (spN X.K cl kk g)) (tk : Takes X W) (hr : Room k X.A) (hg : Gl X x) (hm : X.mg x = some (.ref f)) (hk : PySem.W.keepIn X.K (.ref f) = true) (hb : Binds X.K fd ps [])
    {e : Expr} (ha : PA X (e :: es) (tMA X.K cl W ms)) (hdb : (x == ("__debug__" : Str)) = false := by decide) (he : starEach (e :: es) X.env = (false, eval e X.env) :: starEach es X.env := by rfl) (hpl : (backTo pos (starEach es X.env)).any (·.1) = false := by rfl) :
    PE X (.Call (.Name x p) (e :: es) [] pos) (tM X.K cl W (mCallN kk g ms)) := PE.imp (pe_callS F hr hg hm hk hb (fun σ => passAt tk σ) ha hdb he hpl) fun σ H Q h => by
  obtain ⟨C, E, T, R, h⟩ := h
  refine ⟨C, E, T, R, (Run.bind h).imp fun rs E1 h1 vs H1 R1 b1 => ?_⟩
  obtain ⟨F1, ρ1, RF⟩ := R1
  have key : ∀ {r : Ret} {r2 : List Ret} {ds : List D} {E2 : SEnv}, rs.drop kk = r :: r2 → takes E1 (rs.take kk ++ r2) = some (ds, E2) → ∃ (v1 : List V) (v : V) (v2 : List V) (F2 : Hp), vs = v1 ++ v :: v2 ∧ v1.length = kk ∧ Bor σ v r ∧ Same F1 F2 ∧ RelF X.K cl C F2 ρ1 E2 (T ++ (v1.zip ((ds.take kk).map Ret.val) ++ [(v, r)])) σ H1 ∧ DpAll X.K F2 v1 (ds.take kk) ∧ DpAll X.K F2 v2 (ds.drop kk) := fun {r r2 ds E2} e e2 => by
    have hrs : rs = rs.take kk ++ r :: r2 := by rw [← e, List.take_append_drop]
    have hkl : (rs.take kk).length = kk := by
      have := congrArg List.length e
      rw [List.length_drop, List.length_cons] at this
      rw [List.length_take]; omega
    rw [hrs] at b1 RF
    obtain ⟨v1, v, v2, rfl, hl, c1, c0, c2⟩ := bors_app b1
    obtain ⟨d1, d2, E3, rfl, hd1, q1, q2⟩ := takes_app e2
    have hz : (v1 ++ v :: v2).zip (rs.take kk ++ r :: r2) = v1.zip (rs.take kk) ++ ([(v, r)] ++ v2.zip r2) := by
      rw [List.zip_append hl]; rfl
    rw [hz] at RF
    obtain ⟨F2, f2, R2, g1⟩ := RF.takesT c1 q1
    have R2' : RelF X.K cl C F2 ρ1 E3 ((T ++ (v1.zip (d1.map Ret.val) ++ [(v, r)])) ++ v2.zip r2) σ H1 := by
      have : T ++ (v1.zip (d1.map Ret.val) ++ ([(v, r)] ++ v2.zip r2)) = (T ++ (v1.zip (d1.map Ret.val) ++ [(v, r)])) ++ v2.zip r2 := by simp [List.append_assoc]
      rw [← this]; exact R2
    obtain ⟨F3, f3, R3, g2⟩ := R2'.takes c2 q2
    have ht : (d1 ++ d2).take kk = d1 := by rw [List.take_left' (by omega)]
    have hdr : (d1 ++ d2).drop kk = d2 := by rw [List.drop_left' (by omega)]
    rw [ht, hdr]
    exact ⟨v1, v, v2, F3, rfl, by omega, c0, L2.Same.trans f2 f3, R3, dps_mono f3 g1, g2⟩
  split at h1
  case h_2 => exact h1.elim
  rename_i i r2 er
  split at h1
  case h_2 => exact h1.elim
  rename_i ds E2 e2
  obtain ⟨v1, v, v2, F2, rfl, hl, c0, f2, R2, g1, g2⟩ := key er e2
  have b0' : σ[i]? = some (some v) := c0
  have RD : RelF X.K cl C F2 ρ1 E2 T σ H1 := R2.drop
  split at h1
  case h_2 => exact h1.elim
  rename_i b xs ev
  split at h1
  case h_2 => exact h1.elim
  rename_i d xs' eg
  cases es : E2[i]? with
  | none => rw [es] at ev; cases ev
  | some s =>
  rw [es] at ev
  obtain ⟨q, eq0, ⟨us, qs, o1, o2, o3, o4⟩, o5⟩ := nview_ok (RD.sl i _ s b0' es) ev
  cases eq0
  refine ⟨F2, xs, ds.take kk, ds.drop kk, q, us, qs, v1, v2, RD.tb, hl, rfl, o1.toN, o3, nits_tag (L2.Same.refl _) (fun a _ o h _ => ⟨h.toN, rfl⟩) o4, RD.fh, g1, g2, ?_⟩
  rw [eg]
  intro v' H' F' us' qs' k1 k2 k3 k4 k5 k6 k7 k8 k9 hv
  have hreg : ∀ a ∈ q :: qs, (∃ o, OwnAt X.K F2 ρ1 H1 (.s i) a o) ∧ C.H0 a = none := fun a ha => by
    rcases List.mem_cons.mp ha with z | z
    · subst z; exact ⟨⟨_, o1⟩, o2⟩
    · obtain ⟨ds', y1, y2⟩ := nits_mem o4 z; exact ⟨⟨_, y1⟩, y2⟩
  have hnT : ∀ a ∈ cl.T.map (·.1), a ∉ q :: qs := fun a ha hm => by
    obtain ⟨⟨o, ho, e1, m1, _⟩, _⟩ := hreg a hm
    obtain ⟨ps, e3⟩ := tabs_at RD.tb.1 ha
    rw [e1] at e3
    exact mrep_tbl m1 ps (Option.some.inj e3)
  have h0n : ∀ {a : Addr} {o : HO}, C.H0 a = some o → a ∉ q :: qs := fun {a o} e hm => by rw [(hreg a hm).2] at e; cases e
  have RR := RelF.redo (T := T) (T' := []) (F' := F') (ρ' := fun a => if a ∈ qs' then some (.s i) else ρ1 a) (H' := H') (s' := .nst b xs') (by simpa using RD) es (nview_free ev) k7 k8
    (fun a u e l => k1 a u (h0n e) (by rw [noT_at (RD.nt0 e)]; exact RD.h0 a u e l)) (fun a u e => by
      obtain ⟨o, ho⟩ := RD.there e
      rw [k9 a o (h0n e) ho]; exact RD.hf a u e) ⟨k2, fun a ha => by
      obtain ⟨ps, e3⟩ := tabs_at RD.tb.1 ha
      rw [k9 a _ (hnT a ha) e3]; exact RD.tb.2 a ha⟩
    (fun g n hk a o h' => by
      have hn : a ∉ q :: qs := fun hm => by
        obtain ⟨⟨o', h''⟩, _⟩ := hreg a hm
        exact h'.apart h'' n rfl
      obtain ⟨ho, e1, m1, f1, t1⟩ := _root_.id h'
      refine h'.grow k7 (fun u e => k1 a u hn (by rw [noT_at (noT_no RD.tb.1 e1 (mrep_tbl m1))]; exact e)) (by rw [k9 a ho hn e1]; exact f1) (if_neg fun hm => ?_)
      rcases k6 a hm with z | z
      · exact hn (List.mem_cons_of_mem _ z)
      · rw [e1] at z; cases z) (fun w hw _ => by
      rw [b0'] at hw; cases hw
      refine ⟨q, rfl, ⟨us', qs', k3.to ((if_neg (List.nodup_cons.mp k4).1).trans o1.tag), o2, k4, nits_tag (L2.Same.refl _) (fun a ha o h _ => ⟨h.toN.to (if_pos ha), ?_⟩) k5⟩, o5⟩
      rcases k6 a ha with z | z
      · exact (hreg a (List.mem_cons_of_mem _ z)).2
      · exact RD.new_H0 z)
  exact h1 v' H' (RR.push_val hv).rel trivial
end
end MP

open PySem PySem.Spec L2
namespace MP
/-! ### two clauses, both forget the refusal -/
def mTry2 (S1 S2 : EC → Option Bool) (m h1 h2 : M Fl) : M Fl := fun E => match m E with
  | .ex x E1 => (match S1 x.c with
    | some true => h1 E1
    | some false => (match S2 x.c with
      | some true => h2 E1
      | _ => .no)
    | none => .no)
  | r => r
section
variable {X : Cx} {cl : Cl} {W : WX} {pos pos2 pos3 : Pos} {m g1 g2 : M Fl}
theorem den_try2 (S1 S2 : EC → Option Bool) {x y : Str} {np np2 : Pos} {body s1 s2 : List Stmt} {b1 b2 : Stmt} {c c2 : Value} (hs : X.stack = X.env :: X.outer) (hf : X.env.frame = some X.env.locals) (hc : Names X x c) (hc2 : Names X y c2) (tk : Takes X W)
    (hS1 : ∀ e b, S1 e = some b → PySem.W.exmOne X.K (.ref (cl e)) c = some b) (hS2 : ∀ e b, S2 e = some b → PySem.W.exmOne X.K (.ref (cl e)) c2 = some b)
    (hb : ∀ (W : WX) (pn : List (Addr × Obj)) (xe : Value → Shared → Prop), Takes (X.tr pn xe) W → PassesOwn (model X.prog X.w) X.A X.env xe → PSs (X.tr pn xe) body (tMS X.K cl W m))
    (hsu1 : ∀ (a : Addr) (pn : List (Addr × Obj)), PSs (X.suite a pn) (b1 :: s1) (tMS X.K cl W g1)) (hsu2 : ∀ (a : Addr) (pn : List (Addr × Obj)), PSs (X.suite a pn) (b2 :: s2) (tMS X.K cl W g2)) :
    PS X (.Try body [.ExceptHandler (some (.Name x np)) none (b1 :: s1) pos2, .ExceptHandler (some (.Name y np2)) none (b2 :: s2) pos3] [] [] pos) (tMS X.K cl W (mTry2 S1 S2 m g1 g2)) :=
  PS.imp (L2.ps_try_many (tb := fun W => tMS X.K cl W m) (Wout := W) hs hf tk hb (.cons (ts := fun _ _ _ => tMS X.K cl W g1) hc (fun a oe cls d pn _ _ => hsu1 a _) (.cons (ts := fun _ _ _ => tMS X.K cl W g2) hc2 (fun a oe cls d pn _ _ => hsu2 a _) .nil))) fun D σ H h => by
    obtain ⟨C, E, T, R, h⟩ := h
    refine ⟨C, E, T, R, ?_⟩
    unfold mTry2 at h
    cases q : m E with
    | no => rw [q] at h; exact h.elim
    | ok fl E1 => rw [q] at h; exact h
    | ex x E1 =>
      rw [q] at h
      dsimp only at h
      split at h
      · rename_i e1
        intro d σ1 H1 R1 hd1
        exact ⟨true, hS1 _ _ e1, fun _ a na => ⟨C, E1, T, R1, h⟩, fun z => by cases z⟩
      · rename_i e1
        split at h
        · rename_i e2
          intro d σ1 H1 R1 hd1
          exact ⟨false, hS1 _ _ e1, (fun z => by cases z), fun _ => ⟨true, hS2 _ _ e2, fun _ a na => ⟨C, E1, T, R1, h⟩, fun z => by cases z⟩⟩
        · exact h.elim
      · exact h.elim
end
@[simp] theorem e_try2 (S1 S2 : EC → Option Bool) (m h1 h2 : M Fl) (E : SEnv) : mTry2 S1 S2 m h1 h2 E = match m E with
  | .ex x E1 => (match S1 x.c with
    | some true => h1 E1
    | some false => (match S2 x.c with
      | some true => h2 E1
      | _ => .no)
    | none => .no)
  | r => r := rfl
/-! ### how often a text stands in a text -/
def mScount (a b : M Ret) : M Ret := fun E => (a E).bind fun r1 E1 => match dat E1 r1 with
  | some (.str x) => (b E1).bind fun r2 E2 => (match dat E2 r2 with
    | some (.str y) => .ok (.val (.int (Txt.count x y))) E2
    | _ => .no)
  | _ => .no
section
variable {X : Cx} {cl : Cl} {W : WX} {o e : Expr} {apos cpos : Pos} {ma mb : M Ret}
theorem den_scount (ho : PE X o (tM X.K cl W ma)) (hb : PE X e (tM X.K cl W mb)) (hbase : attributeBase o "count" X.env (eval o X.env) = eval o X.env := by rfl)
    (hfew : ((backTo cpos (starEach [e] X.env)).all (fun x => !x.1) && (backToKw cpos (keywordEach [] X.env)).all (fun x => x.1.isSome)
      && decide ([e].length + ([] : List Keyword).length + (if ([] : List Keyword).isEmpty then 0 else 1) < 30)) = true := by rfl)
    (hline : (apos.endLine == cpos.line) = true := by rfl) (hs : starEach [e] X.env = (false, eval e X.env) :: starEach [] X.env := by rfl) (hplain : (backTo cpos (starEach [] X.env)).any (·.1) = false := by rfl) :
    PE X (.Call (.Attribute o "count" apos) [e] [] cpos) (tM X.K cl W (mScount ma mb)) := PE.imp (pe_bm F.plainAttrs_str PySem.F.slot_str_count PySem.F.type_str_count L2.mt_count ho (pa_cons hb pa_nil hs) hbase hfew hline hs hplain) fun σ H Q h => by
  obtain ⟨C, E, T, R, h⟩ := h
  refine ⟨C, E, T, R, (Run.bind h).imp fun r1 E1 h1 v1 H1 R1 b1 => ?_⟩
  split at h1
  case h_2 => exact h1.elim
  rename_i x ex
  obtain ⟨F1, ρ1, RF1⟩ := _root_.id R1
  have hv := dpt_str (RF1.dat (k := T.length) (by simp) b1 ex)
  subst hv
  refine ⟨rfl, C, E1, _, R1, (Run.bind h1).go fun r2 E2 h2 v2 H2 R2 b2 => ?_⟩
  split at h2
  case h_2 => exact h2.elim
  rename_i y ey
  obtain ⟨F2, ρ2, RF2⟩ := R2
  have hv := dpt_str (RF2.dat (k := (T ++ [(V.str x, r1)]).length) (by simp) b2 ey)
  subst hv
  exact ⟨x, y, rfl, rfl, h2 _ _ (RF2.drop.drop.push_val (.int _)).rel trivial⟩
end
@[simp] theorem e_scount (a b : M Ret) (E : SEnv) : mScount a b E = (a E).bind fun r1 E1 => match dat E1 r1 with
  | some (.str x) => (b E1).bind fun r2 E2 => (match dat E2 r2 with
    | some (.str y) => .ok (.val (.int (Txt.count x y))) E2
    | _ => .no)
  | _ => .no := rfl
end MP

open PySem PySem.Spec L2
namespace MP
/-! ### x = [list(r) for r in y] : a nest of plain own lists -/
def Cops (H : Hp) : List (Addr × List V) → List Addr → Prop
  | [], [] => True
  | p :: ps, q :: qs => H q = some (.lst p.2) ∧ Cops H ps qs
  | _, _ => False
theorem cops_snoc {H : Hp} {p : Addr × List V} {q : Addr} : ∀ {ps : List (Addr × List V)} {qs : List Addr}, Cops H ps qs → H q = some (.lst p.2) → Cops H (ps ++ [p]) (qs ++ [q])
  | [], [], _, h => ⟨h, trivial⟩
  | _ :: _, _ :: _, ⟨a, b⟩, h => ⟨a, cops_snoc b h⟩
theorem cops_mono {H H' : Hp} : ∀ {ps : List (Addr × List V)} {qs : List Addr}, (∀ q ∈ qs, ∀ o, H q = some o → H' q = some o) → Cops H ps qs → Cops H' ps qs
  | [], [], _, _ => trivial
  | _ :: _, q :: _, k, ⟨a, b⟩ => ⟨k q List.mem_cons_self _ a, cops_mono (fun q h => k q (List.mem_cons_of_mem _ h)) b⟩
theorem cops_len {H : Hp} : ∀ {ps : List (Addr × List V)} {qs : List Addr}, Cops H ps qs → qs.length = ps.length
  | [], [], _ => rfl
  | _ :: _, _ :: _, ⟨_, b⟩ => congrArg (· + 1) (cops_len b)
def tLst1 (K : PySem.W.Frag) (k : Nat) : TE := fun σ H Q => ∃ p ys, σ[k]? = some (some (.ref p)) ∧ (SqL K H p ys ∨ SqT K H p ys) ∧ ∀ l, H l = none → Q (.ref l) (upd H l (.lst ys))
def tNlc (K : PySem.W.Frag) (j k : Nat) : TE := fun σ H Q => ∃ a ps, σ[j]? = some (some (.ref a)) ∧ SqL K H a (ps.map fun p : Addr × List V => V.ref p.1) ∧ ps.length < 100000 ∧ k < σ.length ∧ (∀ p ∈ ps, SqL K H p.1 p.2 ∨ SqT K H p.1 p.2) ∧
  ∀ D qs H', H D = none → (D :: qs).Nodup → (∀ q ∈ qs, H q = none) → Cops H' ps qs → H' D = some (.lst (qs.map V.ref)) → (∀ b, b ∉ D :: qs → H' b = H b) → Q (.ref D) H'
section
variable {X : Cx} {cl : Cl} {W : WX} {pos p2 p3 p4 : Pos}
theorem pe_lst1 (k : Nat) {x r : Str} (hg : Gl X x) (hm : X.mg x = none) (hv : bootBuiltins x = some (.type "list")) (hN : X.N[k]? = some r := by rfl) (hvr : Vis X.env.scope r := by first | exact Or.inl rfl | exact Or.inr (Or.inl rfl) | exact Or.inr (Or.inr rfl)) (hd : (r == ("__debug__" : Str)) = false := by decide) (hcd : (r == ("__classdict__" : Str)) = false := by decide)
    (hn : x ≠ "__name__" := by decide) (hdb : (x == ("__debug__" : Str)) = false := by decide) (he : starEach [.Name r p2] X.env = (false, eval (.Name r p2) X.env) :: starEach [] X.env := by rfl) (hpl : (backTo pos (starEach [] X.env)).any (·.1) = false := by rfl) :
    PE X (.Call (.Name x p3) [.Name r p2] [] pos) (tLst1 X.K k) := PE.imp (pe_callTy call_list_of hg hm hv (pa_cons (pe_var hN hvr hd hcd) pa_nil he) hn hdb he hpl) fun σ H Q ⟨p, ys, h1, h2, h3⟩ => ⟨_, h1, p, ys, rfl, h2, h3⟩
theorem nlc_of {K : PySem.W.Frag} (j k : Nat) {σ : St} {H : Hp} {Q : VK} (h : tNlc K j k σ H Q) : tLc (fun σ H R => tVar j σ H fun x H1 => ∃ a, x = .ref a ∧ ((∃ xs, SqL K H1 a xs ∧ R (Itl K a) H1) ∨ ∃ xs, SqT K H1 a xs ∧ R (Itt K a) H1)) (gName k) tYes (tLst1 K k) [k] σ H Q := by
  obtain ⟨a, ps, hj, hl, hlen, hk, hall, hQ⟩ := h
  refine ⟨_, hj, a, rfl, .inl ⟨_, hl, fun D hD => ?_⟩⟩
  refine ⟨fun i m H' => m = ps.length - i ∧ i ≤ ps.length ∧ ∃ qs, (D :: qs).Nodup ∧ (∀ q ∈ qs, H q = none) ∧ Cops H' (ps.take i) qs ∧ H' D = some (.lst (qs.map V.ref)) ∧ ∀ b, b ∉ D :: qs → H' b = H b, ⟨ps.length, by simp, Nat.zero_le _, [], by simp, by simp, trivial, upd_same, fun b hb => upd_ne (by simpa using hb)⟩, ?_⟩
  rintro i m H' ⟨rfl, hi, qs, nd, hf, hC, hHD, hold⟩
  have hS : Same H H' := fun b o e => by
    rw [hold b fun hb => ?_]
    · exact e
    · cases hb with
      | head => rw [hD] at e; cases e
      | tail _ hb => rw [hf b hb] at e; cases e
  by_cases hlt : i < ps.length
  · refine .inr ⟨⟨_, .ref ps[i].1, L2.Same.seq hS hl, by simp [hlt]⟩, fun H'' => ps.length - (i + 1) = ps.length - (i + 1) ∧ i + 1 ≤ ps.length ∧ ∃ qs, (D :: qs).Nodup ∧ (∀ q ∈ qs, H q = none) ∧ Cops H'' (ps.take (i + 1)) qs ∧ H'' D = some (.lst (qs.map V.ref)) ∧ ∀ b, b ∉ D :: qs → H'' b = H b, fun H'' q => ⟨ps.length - (i + 1), by omega, q⟩, fun x H2 y => ?_⟩
    obtain ⟨rfl, hy⟩ := y
    have hx := hy _ (L2.Same.seq hS hl)
    have hx2 : x = .ref ps[i].1 := by simpa [hlt] using hx.symm
    subst hx2
    refine ⟨?_, ?_⟩
    · show ((σ.set k none).set k (some (V.ref ps[i].1))).set k none = σ.set k none
      rw [List.set_set, List.set_set]
    · simp only [tYes, ↓reduceIte]
      refine ⟨ps[i].1, ps[i].2, ?_, ?_, fun q hq => ?_⟩
      · show ((σ.set k none).set k (some (V.ref ps[i].1)))[k]? = _
        rw [List.set_set, List.getElem?_set_self hk]
      · rcases hall _ (List.getElem_mem hlt) with h | h
        · exact .inl (L2.Same.seq hS h)
        · exact .inr (MP.Same.seqT hS h)
      · have hqD : q ≠ D := fun z => by rw [z, hHD] at hq; cases hq
        have hqs : q ∉ qs := fun hm => by
          obtain ⟨n, hn, e⟩ := List.getElem_of_mem hm
          have : ∀ (ps : List (Addr × List V)) (qs : List Addr), Cops H2 ps qs → ∀ q ∈ qs, ∃ o, H2 q = some o := by
            intro ps
            induction ps with
            | nil => intro qs h q hq; cases qs with
              | nil => cases hq
              | cons _ _ => exact h.elim
            | cons p ps ih => intro qs h q hq; cases qs with
              | nil => cases hq
              | cons q' qs =>
                cases hq with
                | head => exact ⟨_, h.1⟩
                | tail _ hq => exact ih qs h.2 q hq
          obtain ⟨o, ho⟩ := this _ _ hC q hm
          rw [hq] at ho; cases ho
        have hqH : H q = none := by
          rw [← hold q (by simp [hqD, hqs])]; exact hq
        refine ⟨qs.map V.ref, by rw [upd_ne (Ne.symm hqD)]; exact hHD, ?_, trivial, hlt, qs ++ [q], ?_, ?_, ?_, ?_, fun b hb => ?_⟩
        · rw [List.length_map, cops_len hC, List.length_take, sizeLine_eq]
          have : min i ps.length < 100000 := by omega
          exact Nat.lt_of_lt_of_le this (by decide)
        · rw [← List.cons_append]
          exact List.nodup_append.mpr ⟨nd, by simp, fun a ha c hc => by
            rw [List.mem_singleton.mp hc]
            cases ha with
            | head => exact Ne.symm hqD
            | tail _ ha => exact fun z => hqs (by rw [← z]; exact ha)⟩
        · intro a ha
          rcases List.mem_append.mp ha with ha | ha
          · exact hf a ha
          · rw [List.mem_singleton.mp ha]; exact hqH
        · rw [List.take_succ, List.getElem?_eq_getElem hlt]
          have hDn : D ∉ qs := (List.nodup_cons.mp nd).1
          refine cops_snoc (cops_mono (fun a ha o e => ?_) hC) ?_
          · rw [upd_ne (fun z : a = D => hDn (by rw [← z]; exact ha)), upd_ne (fun z : a = q => hqs (by rw [← z]; exact ha))]; exact e
          · rw [upd_ne hqD]; exact upd_same
        · rw [List.map_append]; exact upd_same
        · have h1 : b ∉ D :: qs := fun z => hb (by
            rw [← List.cons_append]; exact List.mem_append_left _ z)
          have h2 : b ≠ q := fun z => hb (by simp [z])
          have h3 : b ≠ D := fun z => h1 (by rw [z]; exact List.mem_cons_self)
          rw [upd_ne h3, upd_ne h2]
          exact hold b h1
  · have e : i = ps.length := by omega
    subst e
    rw [List.take_length] at hC
    exact .inl ⟨⟨_, L2.Same.seq hS hl, by simp⟩, hQ D qs H' hD nd hf hC hHD hold⟩
end
/-- new objects, nobody's so far -/
theorem RelF.fresh {K : PySem.W.Frag} {cl : Cl} {C : Ctx} {F : Hp} {ρ ρ' : Own} {E : SEnv} {T : List (V × Ret)} {σ : L2.St} {H H' : Hp} (R : RelF K cl C F ρ E T σ H) (hH : Same H H') (ht : LamX.Tabs cl.T H') (hρ : ∀ b o, H b = some o → ρ' b = ρ b) : RelF K cl C F ρ' E T σ H' := by
  have hq : ∀ g q o, OwnAt K F ρ H g q o → OwnAt K F ρ' H' g q o := fun g q o h => by
    obtain ⟨ho, e, m, f, t⟩ := h
    exact ⟨ho, hH _ _ e, m, f, (hρ _ _ e).trans t⟩
  exact { len := R.len, f0 := R.f0, fh := L2.Same.trans R.fh hH, h0 := fun q u e l => hH _ _ (R.h0 q u e l), hf := R.hf, tb := ⟨ht, R.tb.2⟩, nt := R.nt, sl := fun i v s e1 e2 => (R.sl i v s e1 e2).grow (L2.Same.refl F) (hq _), ln := R.ln, tm := fun k w r e => (R.tm k w r e).grow (L2.Same.refl F) (hq _) }
def itemsL : D → Option (List D)
  | .list ds => some ds
  | .tuple ds => some ds
  | _ => none
def itemsLs : List D → Option (List (List D))
  | [] => some []
  | d :: ds => match itemsL d, itemsLs ds with
    | some x, some xs => some (x :: xs)
    | _, _ => none
noncomputable def mNlc (i j k : Nat) : M Fl := fun E => match E[i]?, E[j]? with
  | some s, some (.val (.list dss)) => (match itemsLs dss with
    | some xs => if Ok (s.free = true ∧ k < E.length ∧ dss.length < 100000) then .ok .nx (E.set i (.nst false (xs.map fun ds => (none, ds)))) else .no
    | none => .no)
  | _, _ => .no
theorem items_at {K : PySem.W.Frag} {F H : Hp} (hs : Same F H) : ∀ {vs : List V} {dss : List D} {xs : List (List D)}, DpAll K F vs dss → itemsLs dss = some xs → ∃ ps : List (Addr × List V), vs = ps.map (fun p => V.ref p.1) ∧ (∀ p ∈ ps, SqL K H p.1 p.2 ∨ SqT K H p.1 p.2) ∧ ps.length = xs.length ∧ ∀ (n : Nat) (p : Addr × List V) (x : List D), ps[n]? = some p → xs[n]? = some x → DpAll K F p.2 x
  | _, _, _, .nil, e => by cases e; exact ⟨[], rfl, by simp, rfl, by simp⟩
  | v :: vs, d :: dss, _, .cons h hr, e => by
    unfold itemsLs at e
    split at e
    · rename_i x xs e1 e2
      cases e
      obtain ⟨ps, h1, h2, h3, h4⟩ := items_at hs hr e2
      obtain ⟨p, ys, hv, hp, hd⟩ : ∃ p ys, v = V.ref p ∧ (SqL K H p ys ∨ SqT K H p ys) ∧ DpAll K F ys x := by
        cases h with
        | lst a b => cases e1; exact ⟨_, _, rfl, .inl (L2.Same.seq hs a), b⟩
        | tup a b => cases e1; exact ⟨_, _, rfl, .inr (SqT.of (hs _ _ a)), b⟩
        | non => cases e1
        | bl b => cases e1
        | int i => cases e1
        | str x => cases e1
      refine ⟨(p, ys) :: ps, by rw [hv, h1]; rfl, fun q hq => ?_, congrArg (· + 1) h3, fun n q z g1 g2 => ?_⟩
      · cases hq with
        | head => exact hp
        | tail _ hq => exact h2 q hq
      · cases n with
        | zero => cases g1; cases g2; exact hd
        | succ n => exact h4 n q z g1 g2
    · cases e
theorem nits_cops {K : PySem.W.Frag} {F H' : Hp} {ρ : Own} {H0 : Hp} {g : Tag} : ∀ {ps : List (Addr × List V)} {qs : List Addr} {xs : List (List D)}, Cops H' ps qs → ps.length = xs.length → (∀ (n : Nat) (p : Addr × List V) (x : List D), ps[n]? = some p → xs[n]? = some x → DpAll K F p.2 x) → (∀ q ∈ qs, F q = none ∧ H0 q = none ∧ ρ q = some g) →
    NIts K F ρ H0 H' g (qs.map V.ref) qs (xs.map fun ds => (none, ds))
  | [], [], [], _, _, _, _ => trivial
  | p :: ps, q :: qs, x :: xs, ⟨a, b⟩, hl, hd, hq => by
    obtain ⟨q1, q2, q3⟩ := hq q List.mem_cons_self
    exact ⟨⟨rfl, ⟨_, a, ⟨_, rfl, hd 0 p x rfl rfl⟩, q1, q3⟩, q2⟩, nits_cops b (by simpa using hl) (fun n p x e1 e2 => hd (n + 1) p x e1 e2) fun q h => hq q (List.mem_cons_of_mem _ h)⟩
  | [], [], _ :: _, _, hl, _, _ => by cases hl
  | [], _ :: _, _, h, _, _, _ => h.elim
  | _ :: _, [], _, h, _, _, _ => h.elim
  | _ :: _, _ :: _, [], _, hl, _, _ => by cases hl
section
variable {X : Cx} {cl : Cl} {W : WX} {pos p2 p3 p4 spos : Pos}
theorem den_nlc (i j k : Nat) {elt : Expr} {x y r : Str} {scope : Scope} (hc : X.calm = true) (hN : X.N.Nodup) (hyl : X.env.scope.names.lookup x = some .local)
    (hsw : swapsWith (.ListComp elt [⟨.Name r p3, .Name y p2, [], 0⟩] scope pos) (some (.Name x p4)) spos.line X.env = pure true) (ok : BlkOk X.N X.env.scope scope [(r, k)])
    (hg : ∀ (s : Shared) (H : Hp) (C : Addr) (cl : List (Str × Addr)) (fp : List Addr), PG (X.blk s H scope (compEnvC scope cl C X.env) fp) (.Name r p3) (gName k))
    (he : ∀ (s : Shared) (H : Hp) (C : Addr) (cl' : List (Str × Addr)) (fp : List Addr), PE (X.blk s H scope (compEnvC scope cl' C X.env) fp) elt (tLst1 X.K k))
    (hNx : X.N[i]? = some x := by rfl)
    (hNy : X.N[j]? = some y := by rfl) (hv : Vis X.env.scope y := by first | exact Or.inl rfl | exact Or.inr (Or.inl rfl) | exact Or.inr (Or.inr rfl)) (hd : (y == ("__debug__" : Str)) = false := by decide) (hcd : (y == ("__classdict__" : Str)) = false := by decide) (hs : ∀ x, foldedSetIterable (.Name y p2) X.env x = pure x := by intro _; rfl) :
    PS X (.Assign [.Name x p4] (.ListComp elt [⟨.Name r p3, .Name y p2, [], 0⟩] scope pos) spos) (tMS X.K cl W (mNlc i j k)) :=
  PS.imp (ps_setLc hc hN hNx hyl hsw (pi_seq (pe_var hNy hv hd hcd)) ok hg (fun _ _ _ _ _ => pts_nil) he hs) fun D σ H h => by
  refine nlc_of j k ?_
  obtain ⟨C, E, T, ⟨F, ρ, R⟩, h⟩ := h
  unfold mNlc at h
  split at h
  case h_2 => exact h.elim
  rename_i s dss ei ej
  split at h
  case h_2 => exact h.elim
  rename_i xs ex
  split at h
  case isFalse => exact h.elim
  rename_i hok
  obtain ⟨hfr, hk, hlen⟩ := hok
  obtain ⟨w, hw⟩ := slot_there R ej
  obtain ⟨v, rfl, hv⟩ := R.sl j w _ hw ej
  obtain ⟨a, vs, rfl, g1, g2⟩ : ∃ a vs, v = .ref a ∧ SqL X.K F a vs ∧ DpAll X.K F vs dss := by
    cases hv with
    | lst g1 g2 => exact ⟨_, _, rfl, g1, g2⟩
  obtain ⟨ps, rfl, q2, q3, q4⟩ := items_at R.fh g2 ex
  have hpl : ps.length < 100000 := by
    have := dps_len g2
    rw [List.length_map] at this
    omega
  refine ⟨a, ps, hw, L2.Same.seq R.fh g1, hpl, by rw [← R.len]; exact hk, q2, fun Da qs H' hD nd hf hC hHD hold => ?_⟩
  have hS : Same H H' := fun b o e => by
    rw [hold b fun hb => ?_]
    · exact e
    · cases hb with
      | head => rw [hD] at e; cases e
      | tail _ hb => rw [hf b hb] at e; cases e
  have R2 := R.fresh (ρ' := fun b => if b ∈ Da :: qs then some (.s i) else ρ b) hS (R.tb.1.ext hS) (fun b o e => if_neg fun hb => by
    cases hb with
    | head => rw [hD] at e; cases e
    | tail _ hb => rw [hf b hb] at e; cases e)
  have hDa : Da ∈ Da :: qs := List.mem_cons_self
  have R3 := R2.put_slot (i := i) (v := .ref Da) (s' := .nst false (xs.map fun ds => (none, ds))) ei hfr (L2.Same.refl F) R2.fh R2.hf R2.tb.2 (fun _ _ _ _ h => .inr h)
    ⟨Da, rfl, ⟨qs.map V.ref, qs, ⟨_, hHD, ⟨_, rfl, rfl⟩, R.new_F hD, if_pos hDa⟩, R.new_H0 hD, nd, nits_cops hC q3 q4 fun q hq => ⟨R.new_F (hf q hq), R.new_H0 (hf q hq), if_pos (List.mem_cons_of_mem _ hq)⟩⟩, fun z => by cases z⟩
  exact h _ _ R3.rel
end
@[simp] theorem e_nlc (i j k : Nat) (E : SEnv) : mNlc i j k E = match E[i]?, E[j]? with
  | some s, some (.val (.list dss)) => (match itemsLs dss with
    | some xs => if Ok (s.free = true ∧ k < E.length ∧ dss.length < 100000) then .ok .nx (E.set i (.nst false (xs.map fun ds => (none, ds)))) else .no
    | none => .no)
  | _, _ => .no := rfl
end MP

open PySem PySem.Spec L2
namespace MP
section
variable {K : PySem.W.Frag} {cl : Cl} {C : Ctx} {F F' : Hp} {ρ ρ' : Own} {E E' : SEnv} {T T2 : List (V × Ret)} {σ : L2.St} {H H' H0 : Hp} {i j k : Nat} {p q : Addr} {g : Tag}
theorem nits_app : ∀ {vs vs' : List V} {qs qs' : List Addr} {xs xs' : List NE}, NIts K F ρ H0 H g vs qs xs → NIts K F ρ H0 H g vs' qs' xs' → NIts K F ρ H0 H g (vs ++ vs') (qs ++ qs') (xs ++ xs')
  | [], _, [], _, [], _, _, h => h
  | _ :: _, _, _ :: _, _, _ :: _, _, ⟨a, b⟩, h => ⟨a, nits_app b h⟩
  | [], _, _ :: _, _, _, _, h, _ => h.elim
  | [], _, [], _, _ :: _, _, h, _ => h.elim
  | _ :: _, _, [], _, _, _, h, _ => h.elim
  | _ :: _, _, _ :: _, _, [], _, h, _ => h.elim
theorem nits_take : ∀ {vs : List V} {qs : List Addr} {xs : List NE} (n : Nat), NIts K F ρ H0 H g vs qs xs → NIts K F ρ H0 H g (vs.take n) (qs.take n) (xs.take n)
  | _, _, _, 0, _ => trivial
  | [], [], [], _ + 1, _ => trivial
  | _ :: _, _ :: _, _ :: _, n + 1, ⟨a, b⟩ => ⟨a, nits_take n b⟩
  | [], _ :: _, _, _ + 1, h => h.elim
  | [], [], _ :: _, _ + 1, h => h.elim
  | _ :: _, [], _, _ + 1, h => h.elim
  | _ :: _, _ :: _, [], _ + 1, h => h.elim
theorem nits_drop : ∀ {vs : List V} {qs : List Addr} {xs : List NE} (n : Nat), NIts K F ρ H0 H g vs qs xs → NIts K F ρ H0 H g (vs.drop n) (qs.drop n) (xs.drop n)
  | _, _, _, 0, h => h
  | [], [], [], _ + 1, _ => trivial
  | _ :: _, _ :: _, _ :: _, n + 1, ⟨a, b⟩ => nits_drop n b
  | [], _ :: _, _, _ + 1, h => h.elim
  | [], [], _ :: _, _ + 1, h => h.elim
  | _ :: _, [], _, _ + 1, h => h.elim
  | _ :: _, _ :: _, [], _ + 1, h => h.elim
/-- a new own list goes into the nest -/
theorem RelF.nmove {s : MP.Slot} {b : Bool} {xs : List NE} {ds : List D} (R : RelF K cl C F ρ E (T ++ T2) σ H) (hq : OwnAt K F ρ H (.t k) q (.lst ds)) (hk : T.length ≤ k) (hq0 : C.H0 q = none) (es : E[i]? = some s) (ev : nview (some s) = some (b, xs)) (hp : σ[i]? = some (some (.ref p))) (n : Nat) :
    ∃ vs ρ', H p = some (.lst vs) ∧ vs.length = xs.length ∧ RelF K cl C F ρ' (E.set i (.nst b (xs.take n ++ [(none, ds)] ++ xs.drop n))) T σ (upd H p (.lst (vs.take n ++ [.ref q] ++ vs.drop n))) := by
  obtain ⟨p', z, ⟨vs, qs, o1, o2, o3, o4⟩, o5⟩ := nview_ok (R.sl i _ s hp es) ev
  cases z
  have hpq : p ≠ q := o1.apart hq (fun z => by cases z)
  have hqn : ∀ a ∈ p :: qs, a ≠ q := fun a ha => by
    cases ha with
    | head => exact hpq
    | tail _ ha =>
      obtain ⟨ds', h', _⟩ := nits_mem o4 ha
      exact h'.apart hq (fun z => by cases z)
  obtain ⟨ho, e0, m0, _⟩ := _root_.id o1
  refine ⟨vs, fun a => if a = q then some (.s i) else ρ a, o1.rawL, (nits_len o4).1, ?_⟩
  refine RelF.redo (T := T) (T' := T2) R es (nview_free ev) (L2.Same.refl _) (fun a u e => by rw [upd_ne (ne_of_none e o1.fn)]; exact R.fh a u e) (fun a u e l => by rw [upd_ne (ne_of_none e o2)]; exact R.h0 a u e l) R.hf ⟨tabs_mut R.tb.1 e0 m0, R.tb.2⟩ (fun g nn hk' a o h' => ?_) (fun w hw _ => ?_)
  · exact h'.grow (L2.Same.refl _) (fun u e => by rw [upd_ne (h'.apart o1 nn)]; exact e) h'.fn (if_neg (h'.apart hq (fun z => by have := hk' _ z; omega)))
  · rw [hp] at hw; cases hw
    have hper : (qs.take n ++ [q] ++ qs.drop n).Perm (q :: qs) := by
      rw [List.append_assoc]
      show (qs.take n ++ q :: qs.drop n).Perm (q :: qs)
      refine (List.perm_middle).trans ?_
      rw [List.take_append_drop]
    have o4' : NIts K F (fun a => if a = q then some (.s i) else ρ a) C.H0 (upd H p (.lst (vs.take n ++ [.ref q] ++ vs.drop n))) (.s i) vs qs xs := nits_chg (L2.Same.refl _) (fun a ha o h' h0 => ⟨h'.grow (L2.Same.refl _) (fun u e => by rw [upd_ne (fun z => (List.nodup_cons.mp o3).1 (by rw [← z]; exact ha))]; exact e) h'.fn (if_neg (hqn a (List.mem_cons_of_mem _ ha))), h0⟩) o4
    have hown : OwnAt K F (fun a => if a = q then some (.s i) else ρ a) (upd H p (.lst (vs.take n ++ [.ref q] ++ vs.drop n))) (.s i) q (.lst ds) := by
      obtain ⟨ho2, e1, m1, e2, _⟩ := hq
      exact ⟨ho2, by rw [upd_ne (Ne.symm hpq)]; exact e1, m1, e2, if_pos rfl⟩
    have hone : NIts K F (fun a => if a = q then some (.s i) else ρ a) C.H0 (upd H p (.lst (vs.take n ++ [.ref q] ++ vs.drop n))) (.s i) [V.ref q] [q] [((none : Option D), ds)] := ⟨⟨rfl, hown, hq0⟩, trivial⟩
    refine ⟨p, rfl, ⟨vs.take n ++ [.ref q] ++ vs.drop n, qs.take n ++ [q] ++ qs.drop n, ⟨_, upd_same, ⟨_, rfl, rfl⟩, o1.fn, (if_neg hpq).trans o1.tag⟩, o2, ?_, nits_app (nits_app (nits_take n o4') hone) (nits_drop n o4')⟩, o5⟩
    · refine List.nodup_cons.mpr ⟨fun hm => ?_, hper.nodup_iff.mpr (List.nodup_cons.mpr ⟨fun hm => hqn q (List.mem_cons_of_mem _ hm) rfl, (List.nodup_cons.mp o3).2⟩)⟩
      rcases List.mem_cons.mp (hper.mem_iff.mp hm) with z | z
      · exact hpq z
      · exact (List.nodup_cons.mp o3).1 z
end
section
variable {X : Cx} {cl : Cl} {W : WX} {e e2 : Expr} {es : List Expr} {pos p2 p3 p4 apos cpos : Pos} {ms : M (List Ret)} {me : M Ret}
theorem nview_lst {K : PySem.W.Frag} {C : Ctx} {E : SEnv} {T : List (V × Ret)} {σ : L2.St} {H : Hp} {i : Nat} {p : Addr} (R : Rel K cl C E T σ H) (hg : (nview E[i]?).isSome = true) (hp : σ[i]? = some (some (.ref p))) : ∃ us, H p = some (.lst us) := by
  obtain ⟨F, ρ, RF⟩ := _root_.id R
  obtain ⟨⟨b, xs⟩, h⟩ := Option.isSome_iff_exists.mp hg
  cases es : E[i]? with
  | none => rw [es] at h; cases h
  | some s =>
    rw [es] at h
    obtain ⟨p', z, ⟨vs, qs, h1, _⟩, _⟩ := nview_ok (RF.sl i _ s hp es) h
    cases z
    exact ⟨vs, h1.rawL⟩
/-- x.append([..]) -/
noncomputable def mNpushL (i : Nat) (ms : M (List Ret)) : M Ret := fun E => if (nview E[i]?).isSome = true then (ms E).bind fun rs E1 => match rs with
  | [.own (.lst ds)] => (match nview E1[i]? with
    | some (b, xs) => if Ok (xs.length < big) then .ok (.val .none) (E1.set i (.nst b (xs ++ [(none, ds)]))) else .no
    | none => .no)
  | _ => .no else .no
theorem den_npushL (i : Nat) {x : Str} (ha : PA X [e] (tMA X.K cl W ms)) (hN : X.N[i]? = some x := by rfl) (hv : Vis X.env.scope x := by first | exact Or.inl rfl | exact Or.inr (Or.inl rfl) | exact Or.inr (Or.inr rfl)) (hd : (x == ("__debug__" : Str)) = false := by decide) (hcd : (x == ("__classdict__" : Str)) = false := by decide)
    (hbase : attributeBase (.Name x p2) "append" X.env (eval (.Name x p2) X.env) = eval (.Name x p2) X.env := by rfl)
    (hfew : ((backTo cpos (starEach [e] X.env)).all (fun x => !x.1) && (backToKw cpos (keywordEach [] X.env)).all (fun x => x.1.isSome)
      && decide ([e].length + ([] : List Keyword).length + (if ([] : List Keyword).isEmpty then 0 else 1) < 30)) = true := by rfl)
    (hline : (apos.endLine == cpos.line) = true := by rfl) (hsa : starEach [e] X.env = (false, eval e X.env) :: starEach [] X.env := by rfl) (hplain : (backTo cpos (starEach [] X.env)).any (·.1) = false := by rfl) :
    PE X (.Call (.Attribute (.Name x p2) "append" apos) [e] [] cpos) (tM X.K cl W (mNpushL i ms)) :=
  PE.imp (pe_bm F.plainAttrs_list PySem.F.slot_list_append PySem.F.type_list_append mt_append (pe_var hN hv hd hcd) ha hbase hfew hline hsa hplain) fun σ H Q h => by
  obtain ⟨C, E, T, R, h⟩ := h
  unfold mNpushL at h
  split at h
  case isFalse => exact h.elim
  rename_i hg
  obtain ⟨p, hp⟩ := nview_var R hg
  obtain ⟨us0, hus0⟩ := nview_lst R hg hp
  refine ⟨_, hp, .inl ⟨rfl, us0, SqL.of hus0⟩, C, E, T, R, (Run.bind h).imp fun rs E1 h1 vs H1 R1 b1 => ?_⟩
  split at h1
  case h_2 => exact h1.elim
  rename_i ds
  split at h1
  case h_2 => exact h1.elim
  rename_i b xs ev
  split at h1
  case isFalse => exact h1.elim
  rename_i hl
  have hvl := bors_len b1
  obtain ⟨v2, rfl⟩ : ∃ v2, vs = [v2] := by
    match vs, hvl with
    | [a], _ => exact ⟨a, rfl⟩
  obtain ⟨F1, ρ, RF1⟩ := R1
  obtain ⟨q, rfl, hq, hq0⟩ : ∃ q, v2 = .ref q ∧ OwnAt X.K F1 ρ H1 (.t T.length) q (.lst ds) ∧ C.H0 q = none := RF1.tm T.length v2 (.own (.lst ds)) (by simp)
  cases es : E1[i]? with
  | none => rw [es] at ev; cases ev
  | some s =>
  rw [es] at ev
  obtain ⟨vs, ρ', g1, g2, R2⟩ := RF1.nmove hq (Nat.le_refl _) hq0 es ev hp xs.length
  have e1 : vs.take xs.length ++ [V.ref q] ++ vs.drop xs.length = vs ++ [V.ref q] := by rw [← g2, List.take_length, List.drop_length, List.append_nil]
  have e2 : xs.take xs.length ++ [((none : Option D), ds)] ++ xs.drop xs.length = xs ++ [(none, ds)] := by rw [List.take_length, List.drop_length, List.append_nil]
  rw [e1, e2] at R2
  exact ⟨p, vs, .ref q, rfl, rfl, g1, by rw [g2]; exact big_lt (Nat.le_of_lt hl), h1 _ _ (R2.push_val .non).rel trivial⟩
/-- x.insert(e, [..]) -/
noncomputable def mNins (i : Nat) (ms : M (List Ret)) : M Ret := fun E => if (nview E[i]?).isSome = true then (ms E).bind fun rs E1 => match rs with
  | [r1, .own (.lst ds)] => (match dat E1 r1, nview E1[i]? with
    | some (.int n), some (b, xs) => if Ok (0 ≤ n ∧ n.toNat ≤ xs.length ∧ xs.length < big) then .ok (.val .none) (E1.set i (.nst b (xs.take n.toNat ++ [(none, ds)] ++ xs.drop n.toNat))) else .no
    | _, _ => .no)
  | _ => .no else .no
theorem den_nins (i : Nat) {x : Str} (ha : PA X [e, e2] (tMA X.K cl W ms)) (hN : X.N[i]? = some x := by rfl) (hv : Vis X.env.scope x := by first | exact Or.inl rfl | exact Or.inr (Or.inl rfl) | exact Or.inr (Or.inr rfl)) (hd : (x == ("__debug__" : Str)) = false := by decide) (hcd : (x == ("__classdict__" : Str)) = false := by decide)
    (hbase : attributeBase (.Name x p2) "insert" X.env (eval (.Name x p2) X.env) = eval (.Name x p2) X.env := by rfl)
    (hfew : ((backTo cpos (starEach [e, e2] X.env)).all (fun x => !x.1) && (backToKw cpos (keywordEach [] X.env)).all (fun x => x.1.isSome)
      && decide ([e, e2].length + ([] : List Keyword).length + (if ([] : List Keyword).isEmpty then 0 else 1) < 30)) = true := by rfl)
    (hline : (apos.endLine == cpos.line) = true := by rfl) (hsa : starEach [e, e2] X.env = (false, eval e X.env) :: starEach [e2] X.env := by rfl) (hplain : (backTo cpos (starEach [e2] X.env)).any (·.1) = false := by rfl) :
    PE X (.Call (.Attribute (.Name x p2) "insert" apos) [e, e2] [] cpos) (tM X.K cl W (mNins i ms)) :=
  PE.imp (pe_bm F.plainAttrs_list PySem.F.slot_list_insert PySem.F.type_list_insert mt_insert (pe_var hN hv hd hcd) ha hbase hfew hline hsa hplain) fun σ H Q h => by
  obtain ⟨C, E, T, R, h⟩ := h
  unfold mNins at h
  split at h
  case isFalse => exact h.elim
  rename_i hg
  obtain ⟨p, hp⟩ := nview_var R hg
  obtain ⟨us0, hus0⟩ := nview_lst R hg hp
  refine ⟨_, hp, .inl ⟨rfl, us0, SqL.of hus0⟩, C, E, T, R, (Run.bind h).imp fun rs E1 h1 vs H1 R1 b1 => ?_⟩
  split at h1
  case h_2 => exact h1.elim
  rename_i r1 ds
  split at h1
  case h_2 => exact h1.elim
  rename_i n b xs ed ev
  split at h1
  case isFalse => exact h1.elim
  rename_i hl
  have hvl := bors_len b1
  obtain ⟨v1, v2, rfl⟩ : ∃ v1 v2, vs = [v1, v2] := by
    match vs, hvl with
    | [a, c], _ => exact ⟨a, c, rfl⟩
  obtain ⟨F1, ρ, RF1⟩ := R1
  have hn := dpt_int (RF1.dat (k := T.length) (v := v1) (r := r1) (by simp) b1.1 ed)
  subst hn
  obtain ⟨q, rfl, hq, hq0⟩ : ∃ q, v2 = .ref q ∧ OwnAt X.K F1 ρ H1 (.t (T.length + 1)) q (.lst ds) ∧ C.H0 q = none := RF1.tm (T.length + 1) v2 (.own (.lst ds)) (by simp)
  cases es : E1[i]? with
  | none => rw [es] at ev; cases ev
  | some s =>
  rw [es] at ev
  obtain ⟨vs, ρ', g1, g2, R2⟩ := RelF.nmove (T := T) (T2 := [(V.int n, r1), (.ref q, .own (.lst ds))]) (by simpa using RF1) hq (Nat.le_succ _) hq0 es ev hp n.toNat
  refine ⟨p, vs, n, .ref q, rfl, rfl, g1, by rw [g2]; exact big_lt (Nat.le_of_lt hl.2.2), hl.1, ?_, h1 _ _ (R2.push_val .non).rel trivial⟩
  have h1 := hl.2.1
  have h2 := hl.2.2
  have h3 : big < 2 ^ 63 := by unfold big; decide
  omega
/-- x[y].append(x[y][c]) -/
noncomputable def mNapp0 (i j : Nat) (c : Int) : M Ret := fun E => match nview E[i]?, E[j]? with
  | some (b, xs), some (.val (.int n)) => (match ixN xs.length n with
    | some m => (match xs[m]? with
      | some (none, ds) => (match atI ds c with
        | some d => if Ok (ds.length < big) then .ok (.val .none) (E.set i (.nst b (xs.set m (none, ds ++ [d])))) else .no
        | none => .no)
      | _ => .no)
    | none => .no)
  | _, _ => .no
theorem den_napp0 (i j : Nat) {c : Int} {x y : Str} {p5 p6 p7 p8 p9 : Pos} {t1 : Nat} (hN : X.N[i]? = some x := by rfl) (hv : Vis X.env.scope x := by first | exact Or.inl rfl | exact Or.inr (Or.inl rfl) | exact Or.inr (Or.inr rfl)) (hd : (x == ("__debug__" : Str)) = false := by decide) (hcd : (x == ("__classdict__" : Str)) = false := by decide)
    (hN2 : X.N[j]? = some y := by rfl) (hv2 : Vis X.env.scope y := by first | exact Or.inl rfl | exact Or.inr (Or.inl rfl) | exact Or.inr (Or.inr rfl)) (hd2 : (y == ("__debug__" : Str)) = false := by decide) (hcd2 : (y == ("__classdict__" : Str)) = false := by decide)
    (hs : PlainIx (.Name y p3) := by exact fun _ _ => rfl) (hs2 : PlainIx (.Name y p6) := by exact fun _ _ => rfl) (hs3 : PlainIx (.Constant (.int c) t1 p8) := by exact fun _ _ => rfl)
    (hbase : attributeBase (.Subscript (.Name x p2) (.Name y p3) p4) "append" X.env (eval (.Subscript (.Name x p2) (.Name y p3) p4) X.env) = eval (.Subscript (.Name x p2) (.Name y p3) p4) X.env := by rfl)
    (hfew : ((backTo cpos (starEach [.Subscript (.Subscript (.Name x p5) (.Name y p6) p7) (.Constant (.int c) t1 p8) p9] X.env)).all (fun x => !x.1) && (backToKw cpos (keywordEach [] X.env)).all (fun x => x.1.isSome)
      && decide ([Expr.Subscript (.Subscript (.Name x p5) (.Name y p6) p7) (.Constant (.int c) t1 p8) p9].length + ([] : List Keyword).length + (if ([] : List Keyword).isEmpty then 0 else 1) < 30)) = true := by rfl)
    (hline : (apos.endLine == cpos.line) = true := by rfl) (hsa : starEach [.Subscript (.Subscript (.Name x p5) (.Name y p6) p7) (.Constant (.int c) t1 p8) p9] X.env = (false, eval (.Subscript (.Subscript (.Name x p5) (.Name y p6) p7) (.Constant (.int c) t1 p8) p9) X.env) :: starEach [] X.env := by rfl) (hplain : (backTo cpos (starEach [] X.env)).any (·.1) = false := by rfl) :
    PE X (.Call (.Attribute (.Subscript (.Name x p2) (.Name y p3) p4) "append" apos) [.Subscript (.Subscript (.Name x p5) (.Name y p6) p7) (.Constant (.int c) t1 p8) p9] [] cpos) (tM X.K cl W (mNapp0 i j c)) :=
  PE.imp (pe_bm F.plainAttrs_list PySem.F.slot_list_append PySem.F.type_list_append mt_append (pe_ix ix_seq (pe_var hN hv hd hcd) (pe_var hN2 hv2 hd2 hcd2) hs) (pa_cons (pe_ix ix_seq (pe_ix ix_seq (pe_var hN hv hd hcd) (pe_var hN2 hv2 hd2 hcd2) hs2) pe_int hs3) pa_nil hsa) hbase hfew hline hsa hplain) fun σ H Q h => by
  obtain ⟨C, E, T, R, h⟩ := h
  unfold mNapp0 at h
  split at h
  case h_2 => exact h.elim
  rename_i b xs n ev ej
  split at h
  case h_2 => exact h.elim
  rename_i m em
  split at h
  case h_2 => exact h.elim
  rename_i ds ex
  split at h
  case h_2 => exact h.elim
  rename_i d ed
  split at h
  case isFalse => exact h.elim
  rename_i hl
  obtain ⟨F, ρ, p, vs, qs, v, q, A⟩ := inAt_of R ev ex
  obtain ⟨w, hw⟩ := slot_there A.R ej
  obtain ⟨y, rfl, hy⟩ := A.R.sl j w _ hw ej
  cases hy
  have hv2 : v = .ref q := A.one.1
  subst hv2
  obtain ⟨us, h1, h2⟩ := A.ty
  obtain ⟨z, g1, g2⟩ := atI_dps h2 ed
  have hat := ixN_at em (nits_len A.its).1 A.vat
  refine ⟨_, A.s, _, hw, .inl ⟨p, vs, n, .ref q, rfl, rfl, SqL.of A.o.rawL, hat, .inl ⟨rfl, us, SqL.of h1⟩, _, A.s, _, hw, .inl ⟨p, vs, n, .ref q, rfl, rfl, SqL.of A.o.rawL, hat, .inl ⟨q, us, c, z, rfl, rfl, SqL.of h1, g1, q, us, z, rfl, rfl, h1, ?_, ?_⟩⟩⟩⟩
  · rw [dps_len h2]; exact big_lt (Nat.le_of_lt hl)
  · exact h _ _ ((A.put ev (dps_app h2 (.cons g2 .nil))).push_val .non).rel trivial
/-- x[y][c] = e -/
noncomputable def mNset (i j : Nat) (c : Int) (me : M Ret) : M Fl := fun E => (me E).bind fun r E1 => match take E1 r with
  | some (d, E2) => (match nview E2[i]?, E2[j]? with
    | some (b, xs), some (.val (.int n)) => (match ixN xs.length n with
      | some m => (match xs[m]? with
        | some (none, ds) => (match ixN ds.length c with
          | some l => .ok .nx (E2.set i (.nst b (xs.set m (none, ds.set l d))))
          | none => .no)
        | _ => .no)
      | none => .no)
    | _, _ => .no)
  | none => .no
theorem den_nset (i j : Nat) {c : Int} {x y : Str} {ec : Expr} {p5 : Pos} (he : PE X e (tM X.K cl W me)) (hk : PE X ec (tC (.int c))) (hN : X.N[i]? = some x := by rfl) (hv : Vis X.env.scope x := by first | exact Or.inl rfl | exact Or.inr (Or.inl rfl) | exact Or.inr (Or.inr rfl)) (hd : (x == ("__debug__" : Str)) = false := by decide) (hcd : (x == ("__classdict__" : Str)) = false := by decide)
    (hN2 : X.N[j]? = some y := by rfl) (hv2 : Vis X.env.scope y := by first | exact Or.inl rfl | exact Or.inr (Or.inl rfl) | exact Or.inr (Or.inr rfl)) (hd2 : (y == ("__debug__" : Str)) = false := by decide) (hcd2 : (y == ("__classdict__" : Str)) = false := by decide) (hs : PlainIx (.Name y p3) := by exact fun _ _ => rfl)
    (ha : ∀ v, assign (.Subscript (.Subscript (.Name x p2) (.Name y p3) p4) ec p5) X.env v = (do
      let ov ← holding [v] (eval (.Subscript (.Name x p2) (.Name y p3) p4) X.env)
      let iv ← holding [v, ov] (eval ec X.env)
      standAt p5
      holding [v, ov, iv] (setItem ov iv v)
      release [v, ov, iv] []) := by intro _; rfl)
    (hs1 : swapsWithSole [.Subscript (.Subscript (.Name x p2) (.Name y p3) p4) ec p5] e pos.line X.env = pure false := by rfl) (hw : swappedStores [.Subscript (.Subscript (.Name x p2) (.Name y p3) p4) ec p5] e X.env = pure none := by rfl)
    (h1 : (assignEach [.Subscript (.Subscript (.Name x p2) (.Name y p3) p4) ec p5] X.env).map (·.2) = [assign (.Subscript (.Subscript (.Name x p2) (.Name y p3) p4) ec p5) X.env] := by rfl) :
    PS X (.Assign [.Subscript (.Subscript (.Name x p2) (.Name y p3) p4) ec p5] e pos) (tMS X.K cl W (mNset i j c me)) :=
  PS.imp (ps_asg he (pg_sub (pe_ix ix_seq (pe_var hN hv hd hcd) (pe_var hN2 hv2 hd2 hcd2) hs) hk set_list ha) hs1 hw h1) fun D σ H h => by
  obtain ⟨C, E, T, R, h⟩ := h
  refine ⟨C, E, T, R, (RunS.bind h).run fun r E1 h1 v1 H1 R1 b1 => ?_⟩
  split at h1
  case h_2 => exact h1.elim
  rename_i d E2 et
  split at h1
  case h_2 => exact h1.elim
  rename_i b xs n ev ej
  split at h1
  case h_2 => exact h1.elim
  rename_i m em
  split at h1
  case h_2 => exact h1.elim
  rename_i ds ex
  split at h1
  case h_2 => exact h1.elim
  rename_i l el
  obtain ⟨F1, ρ1, RF1⟩ := R1
  obtain ⟨F2, f2, R2, hd1⟩ := RelF.take (T := T) (T2 := []) RF1 b1 et
  -- the value stays while the nest is looked at
  have R3 : RelF X.K cl C F2 ρ1 E2 (T ++ [(v1, .val d)]) σ H1 := R2
  cases es : E2[i]? with
  | none => rw [es] at ev; cases ev
  | some s =>
  rw [es] at ev
  obtain ⟨w0, hw0⟩ := slot_there R3 es
  obtain ⟨p, rfl, ⟨vs, qs, o1, o2, o3, o4⟩, o5⟩ := nview_ok (R3.sl i w0 s hw0 es) ev
  obtain ⟨v, q, e1, e2, e3⟩ := nits_get o4 ex
  have A : InAt X.K cl C F2 ρ1 E2 T σ H1 i b xs m (none, ds) p vs qs v q := ⟨R3.drop, hw0, o1, o2, o3, o4, o5, e2, ex, e1, e3⟩
  obtain ⟨w, hw⟩ := slot_there A.R ej
  obtain ⟨y, rfl, hy⟩ := A.R.sl j w _ hw ej
  cases hy
  have hv2 : v = .ref q := A.one.1
  subst hv2
  obtain ⟨us, g1, g2⟩ := A.ty
  refine ⟨_, A.s, _, hw, .inl ⟨p, vs, n, .ref q, rfl, rfl, SqL.of A.o.rawL, ixN_at em (nits_len A.its).1 A.vat, q, us, c, l, rfl, rfl, g1, by rw [dps_len g2]; exact el, ?_⟩⟩
  exact h1 σ _ (A.put (by rw [es]; exact ev) (dps_set hd1 l g2)).rel
theorem pe_neg1 {n : Int} {t1 : Nat} : PE X (.UnaryOp .USub (.Constant (.int n) t1 p2) p3) (tC (.int (-n))) := PE.imp (pe_un un_neg pe_int) fun σ H Q h => ⟨n, rfl, h⟩
/-- x is given back: all of it is data from now on -/
def plainN : List NE → Option (List D)
  | [] => some []
  | (none, ds) :: xs => (plainN xs).map (.list ds :: ·)
  | (some _, _) :: _ => none
noncomputable def mNtake (i : Nat) : M Ret := fun E => match nview E[i]? with
  | some (false, xs) => (match plainN xs with
    | some ds => .ok (.own (.lst ds)) (E.set i .un)
    | none => .no)
  | _ => .no
theorem plain_dp {K : PySem.W.Frag} {F F' H H0 : Hp} {ρ : Own} {g : Tag} (f : Same F F') : ∀ {vs : List V} {qs : List Addr} {xs : List NE} {ds : List D}, NIts K F ρ H0 H g vs qs xs → plainN xs = some ds → (∀ q ∈ qs, ∀ u, H q = some u → F' q = some u) → DpAll K F' vs ds
  | [], [], [], _, _, e, _ => by cases e; exact .nil
  | v :: vs, q :: qs, (none, us) :: xs, ds, ⟨⟨h1, h2, _⟩, h3⟩, e, hq => by
    obtain ⟨ds', e1, rfl⟩ := Option.map_eq_some_iff.mp (show (plainN xs).map (.list us :: ·) = some ds from e)
    obtain ⟨ws, g1, g2⟩ := h2.lstL
    have hv : v = .ref q := h1
    subst hv
    exact .cons (.lst (SqL.of (hq q List.mem_cons_self _ g1)) (dps_mono f g2)) (plain_dp f h3 e1 fun q h => hq q (List.mem_cons_of_mem _ h))
  | _ :: _, _ :: _, (some _, _) :: _, _, _, e, _ => by cases e
  | [], _ :: _, _, _, h, _, _ => h.elim
  | [], [], _ :: _, _, h, _, _ => h.elim
  | _ :: _, [], _, _, h, _, _ => h.elim
  | _ :: _, _ :: _, [], _, h, _, _ => h.elim
open Classical in
theorem den_ntake (i : Nat) {x : Str} (hN : X.N[i]? = some x := by rfl) (hv : Vis X.env.scope x := by first | exact Or.inl rfl | exact Or.inr (Or.inl rfl) | exact Or.inr (Or.inr rfl)) (hd : (x == ("__debug__" : Str)) = false := by decide) (hcd : (x == ("__classdict__" : Str)) = false := by decide) :
    PE X (.Name x pos) (tM X.K cl W (mNtake i)) := PE.imp (pe_var hN hv hd hcd) fun σ H Q h => by
  obtain ⟨C, E, T, R, h⟩ := h
  unfold mNtake at h
  split at h
  case h_2 => exact h.elim
  rename_i xs ev
  split at h
  case h_2 => exact h.elim
  rename_i ds ep
  obtain ⟨p, hp⟩ := nview_var R (by rw [ev]; rfl)
  refine ⟨_, hp, ?_⟩
  obtain ⟨F, ρ, RF⟩ := R
  cases es : E[i]? with
  | none => rw [es] at ev; cases ev
  | some s =>
  rw [es] at ev
  obtain ⟨p', z, ⟨vs, qs, o1, o2, o3, o4⟩, o5⟩ := nview_ok (RF.sl i _ s hp es) ev
  cases z
  have hqo : ∀ q ∈ qs, ∃ ds, OwnAt X.K F ρ H (.s i) q (.lst ds) ∧ C.H0 q = none := fun q hq => nits_mem o4 hq
  have hS : Same F (fun a => if a ∈ qs then H a else F a) := fun a u e => by
    by_cases ha : a ∈ qs
    · obtain ⟨_, h', _⟩ := hqo a ha
      rw [h'.fn] at e; cases e
    · exact (if_neg ha).trans e
  have hSH : Same (fun a => if a ∈ qs then H a else F a) H := fun a u e => by
    by_cases ha : a ∈ qs
    · exact (if_pos ha).symm.trans e
    · exact RF.fh a u ((if_neg ha).symm.trans e)
  have hpq : p ∉ qs := (List.nodup_cons.mp o3).1
  have own' : ∀ g, g ≠ Tag.s i → (∀ k, g = .t k → k < T.length) → ∀ a o, OwnAt X.K F ρ H g a o → OwnAt X.K (fun a => if a ∈ qs then H a else F a) (fun a => if a = p then some (.t T.length) else ρ a) H g a o := fun g n hk a o h' => by
    have ha : a ∉ qs := fun z => by
      obtain ⟨_, h2, _⟩ := hqo a z
      exact h'.apart h2 n rfl
    exact h'.grow hS (fun _ e => e) ((if_neg ha).trans h'.fn) (if_neg (h'.apart o1 n))
  have R2 := RelF.redo (T := T) (T' := []) (s' := .un) (by simpa using RF) es (nview_free ev) hS hSH RF.h0 (fun a u e => by
      have ha : a ∉ qs := fun z => by
        obtain ⟨_, _, h3⟩ := hqo a z
        rw [h3] at e; cases e
      exact (if_neg ha).trans (RF.hf a u e)) ⟨RF.tb.1, fun a ha => by
      have hn : a ∉ qs := fun z => by
        obtain ⟨_, h2, _⟩ := hqo a z
        obtain ⟨ho, e1, m1, _⟩ := h2
        obtain ⟨pp, e2⟩ := tabs_at RF.tb.1 ha
        rw [e1] at e2
        exact mrep_tbl m1 pp (Option.some.inj e2)
      exact (if_neg hn).trans (RF.tb.2 a ha)⟩ own' (fun _ _ _ => trivial)
  obtain ⟨ho, e0, ⟨ws, hws, hww⟩, e2, e3⟩ := o1
  subst hws hww
  have hD := plain_dp hS o4 ep fun q hq u hu => (if_pos hq).trans hu
  refine h _ _ (RelF.rel (F := fun a => if a ∈ qs then H a else F a) (ρ := fun a => if a = p then some (.t T.length) else ρ a) { len := R2.len, f0 := R2.f0, fh := R2.fh, h0 := R2.h0, hf := R2.hf, tb := R2.tb, nt := R2.nt, sl := R2.sl, ln := R2.ln, tm := fun k w r e => ?_ }) trivial
  rcases at_snoc e with e9 | ⟨hk9, e9⟩
  · exact R2.tm k w r e9
  · subst hk9
    cases e9
    exact ⟨p, rfl, ⟨_, e0, ⟨_, rfl, hD⟩, (if_neg hpq).trans e2, if_pos rfl⟩, o2⟩
end
end MP

namespace L_k03
open PySem PySem.Spec L2 MP
abbrev s__law_cell_at : Stmt := PySem.Challenge.pw_ownboxes_k03_orders_by_rings.main.body.getD 12 (.Pass ⟨0, 0, 0, 0⟩)
abbrev s__law_many : Stmt := PySem.Challenge.pw_ownboxes_k03_orders_by_rings.main.body.getD 15 (.Pass ⟨0, 0, 0, 0⟩)
abbrev s__law_all : Stmt := PySem.Challenge.pw_ownboxes_k03_orders_by_rings.main.body.getD 16 (.Pass ⟨0, 0, 0, 0⟩)
abbrev s__law_order : Stmt := PySem.Challenge.pw_ownboxes_k03_orders_by_rings.main.body.getD 14 (.Pass ⟨0, 0, 0, 0⟩)
abbrev s__law_told : Stmt := PySem.Challenge.pw_ownboxes_k03_orders_by_rings.main.body.getD 19 (.Pass ⟨0, 0, 0, 0⟩)
abbrev s__law_rings : Stmt := PySem.Challenge.pw_ownboxes_k03_orders_by_rings.main.body.getD 18 (.Pass ⟨0, 0, 0, 0⟩)
abbrev s_is_each_once : Stmt := PySem.Challenge.pw_ownboxes_k03_orders_by_rings.main.body.getD 9 (.Pass ⟨0, 0, 0, 0⟩)
abbrev s_order_by : Stmt := PySem.Challenge.pw_ownboxes_k03_orders_by_rings.main.body.getD 10 (.Pass ⟨0, 0, 0, 0⟩)
abbrev s__law_whole : Stmt := PySem.Challenge.pw_ownboxes_k03_orders_by_rings.main.body.getD 13 (.Pass ⟨0, 0, 0, 0⟩)
abbrev s__law_is_order : Stmt := PySem.Challenge.pw_ownboxes_k03_orders_by_rings.main.body.getD 17 (.Pass ⟨0, 0, 0, 0⟩)
abbrev s__law_refused : Stmt := PySem.Challenge.pw_ownboxes_k03_orders_by_rings.main.body.getD 20 (.Pass ⟨0, 0, 0, 0⟩)
abbrev s__law_spoilt : Stmt := PySem.Challenge.pw_ownboxes_k03_orders_by_rings.main.body.getD 21 (.Pass ⟨0, 0, 0, 0⟩)
abbrev s_law : Stmt := PySem.Challenge.pw_ownboxes_k03_orders_by_rings.main.body.getD 22 (.Pass ⟨0, 0, 0, 0⟩)
theorem sc__law_cell_at : FnScope ["script", "k"] ["script", "k"] (defScope s__law_cell_at) := ⟨rfl, rfl, rfl, by decide +kernel, rfl, by decide +kernel, by decide +kernel⟩
theorem sc__law_many : FnScope ["script", "head"] ["script"] (defScope s__law_many) := ⟨rfl, rfl, rfl, by decide +kernel, rfl, by decide +kernel, by decide +kernel⟩
theorem sc__law_all : FnScope ["script", "total", "cell"] ["script"] (defScope s__law_all) := ⟨rfl, rfl, rfl, by decide +kernel, rfl, by decide +kernel, by decide +kernel⟩
theorem sc__law_order : FnScope ["cell", "many", "order", "k"] ["cell", "many"] (defScope s__law_order) := ⟨rfl, rfl, rfl, by decide +kernel, rfl, by decide +kernel, by decide +kernel⟩
theorem sc__law_told : FnScope ["rings", "cell", "found", "ring", "at", "part"] ["rings", "cell"] (defScope s__law_told) := ⟨rfl, rfl, rfl, by decide +kernel, rfl, by decide +kernel, by decide +kernel⟩
theorem sc__law_rings : FnScope ["order", "found", "met", "box", "ring"] ["order"] (defScope s__law_rings) := ⟨rfl, rfl, rfl, by decide +kernel, rfl, by decide +kernel, by decide +kernel⟩
theorem sc_is_each_once : FnScope ["numbers"] ["numbers"] (defScope s_is_each_once) := ⟨rfl, rfl, rfl, by decide +kernel, rfl, by decide +kernel, by decide +kernel⟩
theorem sc_order_by : FnScope ["rings", "boxes", "ring", "names", "k"] ["rings"] (defScope s_order_by) := ⟨rfl, rfl, rfl, by decide +kernel, rfl, by decide +kernel, by decide +kernel⟩
theorem sc__law_whole : FnScope ["found"] ["found"] (defScope s__law_whole) := ⟨rfl, rfl, rfl, by decide +kernel, rfl, by decide +kernel, by decide +kernel⟩
theorem sc__law_is_order : FnScope ["found", "many", "name"] ["found", "many"] (defScope s__law_is_order) := ⟨rfl, rfl, rfl, by decide +kernel, rfl, by decide +kernel, by decide +kernel⟩
theorem sc__law_refused : FnScope ["rings", "error", "e"] ["rings"] (defScope s__law_refused) := ⟨rfl, rfl, rfl, by decide +kernel, rfl, by decide +kernel, by decide +kernel⟩
theorem sc__law_spoilt : FnScope ["rings", "many", "way", "cell", "found", "at", "far", "ring"] ["rings", "many", "way", "cell"] (defScope s__law_spoilt) := ⟨rfl, rfl, rfl, by decide +kernel, rfl, by decide +kernel, by decide +kernel⟩
theorem sc_law : FnScope ["script", "many", "cell", "order", "rings", "handed", "found", "way", "ring"] ["script"] (defScope s_law) := ⟨rfl, rfl, rfl, by decide +kernel, rfl, by decide +kernel, by decide +kernel⟩
def caught : EC → Bool := fun c => match c with | .BadOrder => true | _ => false
def ist_0 : EC → Option Bool := fun c => match c with | .BadOrder => some true | _ => none
def ist_1 : EC → Option Bool := fun c => match c with | .BadOrder => some true | _ => none
def ist_2 : EC → Option Bool := fun c => match c with | .BadOrder => some false | _ => none
/-! ### the functions -/
/- _law_cell_at: 0 script, 1 k -/
noncomputable def m__law_cell_at : M Fl := (mSeq (mIf (mBl (m2 ltF (mVar 1) (mN lenF (mA1 (mVar 0) mA0)))) (mRet (m2 ixF (mVar 0) (mVar 1))) mNx) (mRet (mD (.int 0))))
noncomputable def fn__law_cell_at : List D → FR := runDef 2 2 m__law_cell_at
/- _law_many: 0 script, 1 head -/
noncomputable def m__law_many : M Fl := (mSeq (mSet 1 (mCall fn__law_cell_at (mA1 (mVar 0) (mA1 (mD (.int 0)) mA0)))) (mRet (m2 addF (mD (.int 1)) (m2 ixF (mLst (mA1 (m2 modF (m2 divF (mVar 1) (mD (.int 4))) (mD (.int 8))) (mA1 (m2 modF (m2 divF (mVar 1) (mD (.int 4))) (mD (.int 8))) (mA1 (m2 modF (m2 divF (mVar 1) (mD (.int 4))) (mD (.int 20))) (mA1 (m2 modF (m2 divF (mVar 1) (mD (.int 4))) (mD (.int 60))) mA0))))) (m2 modF (mVar 1) (mD (.int 4)))))))
noncomputable def fn__law_many : List D → FR := runDef 1 2 m__law_many
/- _law_all: 0 script, 1 total, 2 cell -/
noncomputable def bd__law_all_1 : M Fl := (mSet 1 (m2 addF (mMul (mVar 1) (mD (.int 1000))) (mVar 2)))
noncomputable def lp__law_all_1 : M Fl := mFor (mIt (mVar 0)) (mStore 2) bd__law_all_1
noncomputable def m__law_all : M Fl := (mSeq (mSet 1 (mD (.int 0))) (mSeq lp__law_all_1 (mRet (mVar 1))))
noncomputable def fn__law_all : List D → FR := runDef 1 3 m__law_all
/- _law_order: 0 cell, 1 many, 2 order, 3 k -/
noncomputable def bd__law_order_1 : M Fl := (mSeq (mExp (guardL 2 (mMut 2 insF (mA1 (m2 modF (mVar 0) (m2 addF (mVar 3) (mD (.int 1)))) (mA1 (mVar 3) mA0))))) (mSet 0 (m2 divF (mVar 0) (m2 addF (mVar 3) (mD (.int 1))))))
noncomputable def lp__law_order_1 : M Fl := mFor (mRng rng1F (mA1 (mVar 1) mA0)) (mStore 3) bd__law_order_1
noncomputable def m__law_order : M Fl := (mSeq (mSet 2 (mLst mA0)) (mSeq lp__law_order_1 (mRet (mN tupleF (mA1 (mVar 2) mA0)))))
noncomputable def fn__law_order : List D → FR := runDef 2 4 m__law_order
/- _law_told: 0 rings, 1 cell, 2 found, 3 ring, 4 at, 5 part -/
noncomputable def bd__law_told_1 : M Fl := (mSeq (mSet 4 (m2 modF (mVar 1) (mN lenF (mA1 (mVar 3) mA0)))) (mSeq (mSet 1 (m2 divF (mVar 1) (mN lenF (mA1 (mVar 3) mA0)))) (mSeq (mSet 5 (m2 addF (mSl (mVar 3) (mPart (mVar 4)) mNoP) (mSl (mVar 3) mNoP (mPart (mVar 4))))) (mSeq (mIf (mBl (m2 eqF (m2 modF (mVar 1) (mD (.int 2))) (mD (.int 1)))) (mSet 5 (mN listF (mA1 (mVar 5) mA0))) mNx) (mSeq (mExp (guardL 2 (mMut 2 insF (mA1 (m2 modF (m2 divF (mVar 1) (mD (.int 2))) (m2 addF (mN lenF (mA1 (mVar 2) mA0)) (mD (.int 1)))) (mA1 (mVar 5) mA0))))) (mSet 1 (m2 divF (m2 divF (mVar 1) (mD (.int 2))) (mN lenF (mA1 (mVar 2) mA0)))))))))
noncomputable def lp__law_told_1 : M Fl := mFor (mIt (mVar 0)) (mStore 3) bd__law_told_1
noncomputable def m__law_told : M Fl := (mSeq (mSet 2 (mLst mA0)) (mSeq lp__law_told_1 (mRet (mVar 2))))
noncomputable def fn__law_told : List D → FR := runDef 2 6 m__law_told
/- _law_rings: 0 order, 1 found, 2 met, 3 box, 4 ring -/
noncomputable def bd__law_rings_1 : M Fl := (mExp (guardL 4 (mMut 4 appF (mA1 (m2 ixF (mVar 0) (m2 ixF (mVar 4) (m1 negF (mD (.int 1))))) mA0))))
noncomputable def lp__law_rings_1 : M Fl := mWhile (mBl (m2 neF (m2 ixF (mVar 0) (m2 ixF (mVar 4) (m1 negF (mD (.int 1))))) (mVar 3))) bd__law_rings_1
noncomputable def bd__law_rings_2 : M Fl := (mIf (mBl (m2 ninF (mVar 3) (mVar 2))) (mSeq (mSet 4 (mLst (mA1 (mVar 3) mA0))) (mSeq lp__law_rings_1 (mSeq (mExp (guardL 2 (mMutB 2 extF (mA1 (mVar 4) mA0)))) (mExp (guardL 1 (mMut 1 appF (mA1 (mN tupleF (mA1 (mVar 4) mA0)) mA0))))))) mNx)
noncomputable def lp__law_rings_2 : M Fl := mFor (mRng rng1F (mA1 (mN lenF (mA1 (mVar 0) mA0)) mA0)) (mStore 3) bd__law_rings_2
noncomputable def m__law_rings : M Fl := (mSeq (mSet 1 (mLst mA0)) (mSeq (mSet 2 (mLst mA0)) (mSeq lp__law_rings_2 (mRet (mVar 1)))))
noncomputable def fn__law_rings : List D → FR := runDef 1 5 m__law_rings
/- is_each_once: 0 numbers -/
noncomputable def m_is_each_once : M Fl := (mRet (mAndV (mChain leF leF (mD (.int 1)) (mN lenF (mA1 (mVar 0) mA0)) (mD (.int 60))) (m2 eqF (mN sortedF (mA1 (mVar 0) mA0)) (m1 lrg1F (mN lenF (mA1 (mVar 0) mA0))))))
noncomputable def fn_is_each_once : List D → FR := runDef 1 1 m_is_each_once
/- order_by: 0 rings, 1 boxes, 2 ring, 3 names, 4 k -/
noncomputable def bd_order_by_1 : M Fl := (mExp (guardL 1 (mMutB 1 extF (mA1 (mVar 2) mA0))))
noncomputable def lp_order_by_1 : M Fl := mFor (mIt (mVar 0)) (mStore 2) bd_order_by_1
noncomputable def el_order_by_1 : M Ret := (mN lenF (mA1 (mVar 2) mA0))
noncomputable def lc_order_by_1 : M Ret := mLc [2] (st1 2) (mIt (mVar 0)) mYes el_order_by_1
noncomputable def bd_order_by_2 : M Fl := (mTo (gSubL 3 (m2 ixF (mVar 2) (m2 subF (mVar 4) (mD (.int 1))))) (m2 ixF (mVar 2) (mVar 4)))
noncomputable def lp_order_by_2 : M Fl := mFor (mRng rng1F (mA1 (mN lenF (mA1 (mVar 2) mA0)) mA0)) (mStore 4) bd_order_by_2
noncomputable def bd_order_by_3 : M Fl := lp_order_by_2
noncomputable def lp_order_by_3 : M Fl := mFor (mIt (mVar 0)) (mStore 2) bd_order_by_3
noncomputable def m_order_by : M Fl := (mSeq (mSet 1 (mLst mA0)) (mSeq lp_order_by_1 (mSeq (mIf (mOr (mNot (mTru (mCall fn_is_each_once (mA1 (mVar 1) mA0)))) (mBl (m2 inF (mD (.int 0)) lc_order_by_1))) (mRaise .BadOrder) mNx) (mSeq (mSet 3 (mMul (mLst (mA1 (mD (.int 0)) mA0)) (mN lenF (mA1 (mVar 1) mA0)))) (mSeq lp_order_by_3 (mRet (mN tupleF (mA1 (mVar 3) mA0))))))))
noncomputable def fn_order_by : List D → FR := runDef 1 5 m_order_by
/- _law_whole: 0 found -/
noncomputable def m__law_whole : M Fl := (mRet (mAndV (m1 (isiF .int) (mVar 0)) (mNotV (m1 (isiF .bool) (mVar 0)))))
noncomputable def fn__law_whole : List D → FR := runDef 1 1 m__law_whole
/- _law_is_order: 0 found, 1 many, 2 name -/
noncomputable def el__law_is_order_1 : M Ret := (mCall fn__law_whole (mA1 (mVar 2) mA0))
noncomputable def lc__law_is_order_1 : M Ret := mLc [2] (st1 2) (mIt (mVar 0)) mYes el__law_is_order_1
noncomputable def m__law_is_order : M Fl := (mSeq (mIf (mOr (mNot (mTru (m1 (isiF .tuple) (mVar 0)))) (mOr (mBl (m2 neF (mN lenF (mA1 (mVar 0) mA0)) (mVar 1))) (mNot (mTru (mN allF (mA1 lc__law_is_order_1 mA0)))))) (mRet (mD (.bool false))) mNx) (mRet (m2 eqF (mN sortedF (mA1 (mVar 0) mA0)) (m1 lrg1F (mVar 1)))))
noncomputable def fn__law_is_order : List D → FR := runDef 2 3 m__law_is_order
/- _law_refused: 0 rings, 1 error, 2 e -/
noncomputable def tr__law_refused_1 : M Fl := (mExp (mCall fn_order_by (mA1 (mVar 0) mA0)))
noncomputable def m__law_refused : M Fl := (mSeq (mSet 1 (mD .none)) (mSeq (mTry caught 2 1 tr__law_refused_1) (mSeq (mIf (mOr (mNot (mTru (mIs ist_0 1))) (mNot (mTru (mIs ist_1 1)))) (mRet (mD (.bool false))) mNx) (mRet (mNotV (mIs ist_2 1))))))
noncomputable def fn__law_refused : List D → FR := runDef 1 3 m__law_refused
/- _law_spoilt: 0 rings, 1 many, 2 way, 3 cell, 4 found, 5 at, 6 far, 7 ring -/
noncomputable def m__law_spoilt : M Fl := (mSeq (mNlc 4 0 7) (mSeq (mSet 5 (m2 modF (mVar 3) (mNlen 4))) (mSeq (mSet 6 (m2 modF (m2 divF (mVar 3) (mD (.int 60))) (m2 powF (mD (.int 10)) (mD (.int 60))))) (mSeq (mIf (mBl (m2 eqF (mVar 2) (mD (.int 0)))) (mExp (mNins 4 (mA1 (mVar 5) (mA1 (mLst mA0) mA0)))) (mIf (mBl (m2 eqF (mVar 2) (mD (.int 1)))) (mExp (mNapp0 4 5 0)) (mIf (mBl (m2 eqF (mVar 2) (mD (.int 2)))) (mExp (mNpushL 4 (mA1 (mLst (mA1 (m2 modF (m2 divF (mVar 3) (mD (.int 60))) (mVar 1)) mA0)) mA0))) (mIf (mBl (m2 eqF (mVar 2) (mD (.int 3)))) (mNset 4 5 (0) (m2 addF (mVar 1) (mVar 6))) (mIf (mBl (m2 eqF (mVar 2) (mD (.int 4)))) (mNset 4 5 (-1) (m2 subF (m1 negF (mD (.int 1))) (mVar 6))) (mIf (mBl (m2 eqF (mVar 2) (mD (.int 5)))) (mExp (mNpushL 4 (mA1 (mLst (mA1 (m2 addF (m2 addF (mVar 1) (mD (.int 1))) (mVar 6)) mA0)) mA0))) (mSet 4 (mLst mA0)))))))) (mRet (mNtake 4))))))
noncomputable def fn__law_spoilt : List D → FR := runDef 4 8 m__law_spoilt
/- law: 0 script, 1 many, 2 cell, 3 order, 4 rings, 5 handed, 6 found, 7 way, 8 ring -/
noncomputable def el_law_1 : M Ret := (mN listF (mA1 (mVar 8) mA0))
noncomputable def lc_law_1 : M Ret := mLc [8] (st1 8) (mIt (mVar 4)) mYes el_law_1
noncomputable def el_law_2 : M Ret := (mN listF (mA1 (mVar 8) mA0))
noncomputable def lc_law_2 : M Ret := mLc [8] (st1 8) (mIt (mVar 4)) mYes el_law_2
noncomputable def bd_law_1 : M Fl := (mIf (mNot (mTru (mCall fn__law_refused (mA1 (mCall fn__law_spoilt (mA1 (mVar 4) (mA1 (mVar 1) (mA1 (mVar 7) (mA1 (m2 divF (mVar 2) (mD (.int 7))) mA0))))) mA0)))) (mRet (mD (.bool false))) mNx)
noncomputable def lp_law_1 : M Fl := mFor (mRng rng1F (mA1 (mD (.int 7)) mA0)) (mStore 7) bd_law_1
noncomputable def m_law : M Fl := (mSeq (mSet 1 (mCall fn__law_many (mA1 (mVar 0) mA0))) (mSeq (mSet 2 (mCall fn__law_all (mA1 (mVar 0) mA0))) (mSeq (mSet 3 (mCall fn__law_order (mA1 (mVar 2) (mA1 (mVar 1) mA0)))) (mSeq (mSet 4 (mCall fn__law_told (mA1 (mCall fn__law_rings (mA1 (mVar 3) mA0)) (mA1 (m2 divF (mVar 2) (mD (.int 3))) mA0)))) (mSeq (mSet 5 lc_law_1) (mSeq (mSet 6 (mCall fn_order_by (mA1 (mVar 4) mA0))) (mSeq (mIf (mOr (mNot (mTru (mCall fn__law_is_order (mA1 (mVar 6) (mA1 (mVar 1) mA0))))) (mOr (mBl (m2 neF (mVar 6) (mVar 3))) (mBl (m2 neF lc_law_2 (mVar 5))))) (mRet (mD (.bool false))) mNx) (mSeq lp_law_1 (mRet (mCall fn__law_refused (mA1 (mLst (mA1 (m1 lrg1F (mD (.int 61))) mA0)) mA0)))))))))))
noncomputable def fn_law : List D → FR := runDef 1 9 m_law
/-! ### what the top has written -/
structure Facts (K : PySem.W.Frag) (mg : Str → Option Value) (cl : EC → Addr) where
  g_BoxError : mg "BoxError" = some (.ref (cl .BoxError))
  g_BadOrder : mg "BadOrder" = some (.ref (cl .BadOrder))
  g_BadBox : mg "BadBox" = some (.ref (cl .BadBox))
  g_BadOpenings : mg "BadOpenings" = some (.ref (cl .BadOpenings))
  g_TooMany : mg "TooMany" = some (.ref (cl .TooMany))
  g_NoNumber : mg "NoNumber" = some (.ref (cl .NoNumber))
  o_BadOrder : ClsOk K mg "BadOrder" (cl .BadOrder)
  x_BoxError : ∀ e, caught e = true → PySem.W.exmOne K (.ref (cl e)) (.ref (cl .BoxError)) = some true
  i_0 : ∀ c b, ist_0 c = some b → ExcC K (cl c) ∧ PySem.W.kitOne K (.ref (cl c)) (.ref (cl .BadOrder)) = some b
  n_0 : PySem.W.kitOne K (.type "NoneType") (.ref (cl .BadOrder)) = some false
  i_1 : ∀ c b, ist_1 c = some b → ExcC K (cl c) ∧ PySem.W.kitOne K (.ref (cl c)) (.type "ValueError") = some b
  n_1 : PySem.W.kitOne K (.type "NoneType") (.type "ValueError") = some false
  i_2 : ∀ c b, ist_2 c = some b → ExcC K (cl c) ∧ PySem.W.kitAny K (.ref (cl c)) [.ref (cl .BadBox), .ref (cl .BadOpenings), .ref (cl .NoNumber), .ref (cl .TooMany)] = some b
  n_2 : PySem.W.kitAny K (.type "NoneType") [.ref (cl .BadBox), .ref (cl .BadOpenings), .ref (cl .NoNumber), .ref (cl .TooMany)] = some false
  a__law_cell_at : Addr
  fd__law_cell_at : FuncData
  F__law_cell_at : Fun K "_law_cell_at" "_law_cell_at" s__law_cell_at a__law_cell_at fd__law_cell_at
  b__law_cell_at : Binds K fd__law_cell_at ["script", "k"] []
  g__law_cell_at : mg "_law_cell_at" = some (.ref a__law_cell_at)
  a__law_many : Addr
  fd__law_many : FuncData
  F__law_many : Fun K "_law_many" "_law_many" s__law_many a__law_many fd__law_many
  b__law_many : Binds K fd__law_many ["script"] []
  g__law_many : mg "_law_many" = some (.ref a__law_many)
  a__law_all : Addr
  fd__law_all : FuncData
  F__law_all : Fun K "_law_all" "_law_all" s__law_all a__law_all fd__law_all
  b__law_all : Binds K fd__law_all ["script"] []
  g__law_all : mg "_law_all" = some (.ref a__law_all)
  a__law_order : Addr
  fd__law_order : FuncData
  F__law_order : Fun K "_law_order" "_law_order" s__law_order a__law_order fd__law_order
  b__law_order : Binds K fd__law_order ["cell", "many"] []
  g__law_order : mg "_law_order" = some (.ref a__law_order)
  a__law_told : Addr
  fd__law_told : FuncData
  F__law_told : Fun K "_law_told" "_law_told" s__law_told a__law_told fd__law_told
  b__law_told : Binds K fd__law_told ["rings", "cell"] []
  g__law_told : mg "_law_told" = some (.ref a__law_told)
  a__law_rings : Addr
  fd__law_rings : FuncData
  F__law_rings : Fun K "_law_rings" "_law_rings" s__law_rings a__law_rings fd__law_rings
  b__law_rings : Binds K fd__law_rings ["order"] []
  g__law_rings : mg "_law_rings" = some (.ref a__law_rings)
  a_is_each_once : Addr
  fd_is_each_once : FuncData
  F_is_each_once : Fun K "is_each_once" "is_each_once" s_is_each_once a_is_each_once fd_is_each_once
  b_is_each_once : Binds K fd_is_each_once ["numbers"] []
  g_is_each_once : mg "is_each_once" = some (.ref a_is_each_once)
  a_order_by : Addr
  fd_order_by : FuncData
  F_order_by : Fun K "order_by" "order_by" s_order_by a_order_by fd_order_by
  b_order_by : Binds K fd_order_by ["rings"] []
  g_order_by : mg "order_by" = some (.ref a_order_by)
  a__law_whole : Addr
  fd__law_whole : FuncData
  F__law_whole : Fun K "_law_whole" "_law_whole" s__law_whole a__law_whole fd__law_whole
  b__law_whole : Binds K fd__law_whole ["found"] []
  g__law_whole : mg "_law_whole" = some (.ref a__law_whole)
  a__law_is_order : Addr
  fd__law_is_order : FuncData
  F__law_is_order : Fun K "_law_is_order" "_law_is_order" s__law_is_order a__law_is_order fd__law_is_order
  b__law_is_order : Binds K fd__law_is_order ["found", "many"] []
  g__law_is_order : mg "_law_is_order" = some (.ref a__law_is_order)
  a__law_refused : Addr
  fd__law_refused : FuncData
  F__law_refused : Fun K "_law_refused" "_law_refused" s__law_refused a__law_refused fd__law_refused
  b__law_refused : Binds K fd__law_refused ["rings"] []
  g__law_refused : mg "_law_refused" = some (.ref a__law_refused)
  a__law_spoilt : Addr
  fd__law_spoilt : FuncData
  F__law_spoilt : Fun K "_law_spoilt" "_law_spoilt" s__law_spoilt a__law_spoilt fd__law_spoilt
  b__law_spoilt : Binds K fd__law_spoilt ["rings", "many", "way", "cell"] []
  g__law_spoilt : mg "_law_spoilt" = some (.ref a__law_spoilt)
  a_law : Addr
  fd_law : FuncData
  F_law : Fun K "law" "law" s_law a_law fd_law
  b_law : Binds K fd_law ["script"] []
  g_law : mg "law" = some (.ref a_law)
  t_MOST_BOXES : Tok
  c_MOST_BOXES : mg "MOST_BOXES" = some (.int 60 t_MOST_BOXES)
  z_ValueError : mg "ValueError" = none
  z_all : mg "all" = none
  z_bool : mg "bool" = none
  z_int : mg "int" = none
  z_isinstance : mg "isinstance" = none
  z_len : mg "len" = none
  z_list : mg "list" = none
  z_range : mg "range" = none
  z_sorted : mg "sorted" = none
  z_tuple : mg "tuple" = none
/-! ### the code is the functions -/
section
variable {P : Program} {w : World} {K : PySem.W.Frag} {mg : Str → Option Value} {base : Heap} {cl : Cl}
theorem ok__law_cell_at (Z : Facts K mg cl.a) : FnOk P w K mg base (L2.CX P w) 1 Z.a__law_cell_at Z.fd__law_cell_at ["script", "k"] (spM K cl fn__law_cell_at) :=
  den_def (N := ["script", "k"]) (m := m__law_cell_at) Z.F__law_cell_at sc__law_cell_at fun cdv A outer s H E hr => (den_cons (den_if (den_cmpt op_lt lt_ok (den_var 1) (den_callB call_len len_ok (by rfl) Z.z_len PySem.boot_len (den_args (den_var 0) den_args0))) (den_last (den_ret (den_item (den_var 0) (den_var 1)))) den_nil) (den_last (den_ret den_int)))
theorem ok__law_many (Z : Facts K mg cl.a) : FnOk P w K mg base (L2.CX P w) 2 Z.a__law_many Z.fd__law_many ["script"] (spM K cl fn__law_many) :=
  den_def (N := ["script", "head"]) (m := m__law_many) Z.F__law_many sc__law_many fun cdv A outer s H E hr => (den_cons (den_set 1 sc__law_many.nd (den_call (ok__law_cell_at (P := P) (w := w) (base := base) (cl := cl) Z) (takes_of rfl rfl rfl rfl) (hr.mono (by decide)) (by rfl) Z.g__law_cell_at Z.F__law_cell_at.kp Z.b__law_cell_at (den_args (den_var 0) (den_args den_int den_args0)))) (den_last (den_ret (den_add den_int (den_item (den_lst (den_args (den_mod (den_div (den_var 1) den_int) den_int) (den_args (den_mod (den_div (den_var 1) den_int) den_int) (den_args (den_mod (den_div (den_var 1) den_int) den_int) (den_args (den_mod (den_div (den_var 1) den_int) den_int) den_args0))))) (den_mod (den_var 1) den_int))))))
theorem ok__law_all (Z : Facts K mg cl.a) : FnOk P w K mg base (L2.CX P w) 1 Z.a__law_all Z.fd__law_all ["script"] (spM K cl fn__law_all) :=
  den_def (N := ["script", "total", "cell"]) (m := m__law_all) Z.F__law_all sc__law_all fun cdv A outer s H E hr => (den_cons (den_set 1 sc__law_all.nd den_int) (den_cons (den_for (passes_of rfl) rfl (den_it (den_var 0)) (den_tname 2 sc__law_all.nd) (den_last (den_set 1 sc__law_all.nd (den_add (den_mul (den_var 1) den_int) (den_var 2))))) (den_last (den_ret (den_var 1)))))
theorem ok__law_order (Z : Facts K mg cl.a) : FnOk P w K mg base (L2.CX P w) 1 Z.a__law_order Z.fd__law_order ["cell", "many"] (spM K cl fn__law_order) :=
  den_def (N := ["cell", "many", "order", "k"]) (m := m__law_order) Z.F__law_order sc__law_order fun cdv A outer s H E hr => (den_cons (den_set 2 sc__law_order.nd (den_lst den_args0)) (den_cons (den_for (passes_of rfl) rfl (den_rng1 (by rfl) Z.z_range (den_args (den_var 1) den_args0)) (den_tname 3 sc__law_order.nd) (den_cons (den_expr (den_mut 2 PySem.F.slot_list_insert PySem.F.type_list_insert mt_insert ins_ok (den_args (den_mod (den_var 0) (den_add (den_var 3) den_int)) (den_args (den_var 3) den_args0)))) (den_last (den_set 0 sc__law_order.nd (den_div (den_var 0) (den_add (den_var 3) den_int)))))) (den_last (den_ret (den_callTy call_tuple_of tuple_ok (by rfl) Z.z_tuple PyProof.Rows.boot_tuple (den_args (den_var 2) den_args0))))))
theorem ok__law_told (Z : Facts K mg cl.a) : FnOk P w K mg base (L2.CX P w) 1 Z.a__law_told Z.fd__law_told ["rings", "cell"] (spM K cl fn__law_told) :=
  den_def (N := ["rings", "cell", "found", "ring", "at", "part"]) (m := m__law_told) Z.F__law_told sc__law_told fun cdv A outer s H E hr => (den_cons (den_set 2 sc__law_told.nd (den_lst den_args0)) (den_cons (den_for (passes_of rfl) rfl (den_it (den_var 0)) (den_tname 3 sc__law_told.nd) (den_cons (den_set 4 sc__law_told.nd (den_mod (den_var 1) (den_callB call_len len_ok (by rfl) Z.z_len PySem.boot_len (den_args (den_var 3) den_args0)))) (den_cons (den_set 1 sc__law_told.nd (den_div (den_var 1) (den_callB call_len len_ok (by rfl) Z.z_len PySem.boot_len (den_args (den_var 3) den_args0)))) (den_cons (den_set 5 sc__law_told.nd (den_add (den_sl (den_var 3) (den_part (den_var 4)) den_noP) (den_sl (den_var 3) den_noP (den_part (den_var 4))))) (den_cons (den_if (den_cmpt (op_eqM hr.units) eq_ok (den_mod (den_var 1) den_int) den_int) (den_last (den_set 5 sc__law_told.nd (den_callTy call_list_of list_ok (by rfl) Z.z_list PyProof.Rows.boot_list (den_args (den_var 5) den_args0)))) den_nil) (den_cons (den_expr (den_mut 2 PySem.F.slot_list_insert PySem.F.type_list_insert mt_insert ins_ok (den_args (den_mod (den_div (den_var 1) den_int) (den_add (den_callB call_len len_ok (by rfl) Z.z_len PySem.boot_len (den_args (den_var 2) den_args0)) den_int)) (den_args (den_var 5) den_args0)))) (den_last (den_set 1 sc__law_told.nd (den_div (den_div (den_var 1) den_int) (den_callB call_len len_ok (by rfl) Z.z_len PySem.boot_len (den_args (den_var 2) den_args0))))))))))) (den_last (den_ret (den_var 2)))))
theorem ok__law_rings (Z : Facts K mg cl.a) : FnOk P w K mg base (L2.CX P w) 1 Z.a__law_rings Z.fd__law_rings ["order"] (spM K cl fn__law_rings) :=
  den_def (N := ["order", "found", "met", "box", "ring"]) (m := m__law_rings) Z.F__law_rings sc__law_rings fun cdv A outer s H E hr => (den_cons (den_set 1 sc__law_rings.nd (den_lst den_args0)) (den_cons (den_set 2 sc__law_rings.nd (den_lst den_args0)) (den_cons (den_for (passes_of rfl) rfl (den_rng1 (by rfl) Z.z_range (den_args (den_callB call_len len_ok (by rfl) Z.z_len PySem.boot_len (den_args (den_var 0) den_args0)) den_args0)) (den_tname 3 sc__law_rings.nd) (den_last (den_if (den_cmpt op_ninM nin_ok (den_var 3) (den_var 2)) (den_cons (den_set 4 sc__law_rings.nd (den_lst (den_args (den_var 3) den_args0))) (den_cons (den_while (passes_of rfl) (den_cmpt (op_neM hr.units) ne_ok (den_item (den_var 0) (den_item (den_var 4) (den_neg den_int))) (den_var 3)) (den_last (den_expr (den_mut 4 PySem.F.slot_list_append PySem.F.type_list_append mt_append app_ok (den_args (den_item (den_var 0) (den_item (den_var 4) (den_neg den_int))) den_args0))))) (den_cons (den_expr (den_mutB 2 PySem.F.slot_list_extend PySem.F.type_list_extend mt_extA ext_ok (den_args (den_var 4) den_args0))) (den_last (den_expr (den_mut 1 PySem.F.slot_list_append PySem.F.type_list_append mt_append app_ok (den_args (den_callTy call_tuple_of tuple_ok (by rfl) Z.z_tuple PyProof.Rows.boot_tuple (den_args (den_var 4) den_args0)) den_args0))))))) den_nil))) (den_last (den_ret (den_var 1))))))
theorem ok_is_each_once (Z : Facts K mg cl.a) : FnOk P w K mg base (L2.CX P w) 1 Z.a_is_each_once Z.fd_is_each_once ["numbers"] (spM K cl fn_is_each_once) :=
  den_def (N := ["numbers"]) (m := m_is_each_once) Z.F_is_each_once sc_is_each_once fun cdv A outer s H E hr => (den_last (den_ret (den_andV (den_chain op_le le_ok op_le le_ok den_int (den_callB call_len len_ok (by rfl) Z.z_len PySem.boot_len (den_args (den_var 0) den_args0)) (den_gint (by rfl) Z.c_MOST_BOXES)) (den_one (den_cmp (op_eqM hr.units) eq_ok (den_callB (cr_sortedI.or cr_sortedTu) sorted_ok (by rfl) Z.z_sorted PyProof.Rows.boot_sorted (den_args (den_var 0) den_args0)) (den_lrg1 rfl (by rfl) Z.z_list (by rfl) Z.z_range (den_callB call_len len_ok (by rfl) Z.z_len PySem.boot_len (den_args (den_var 0) den_args0))))))))
theorem ok_order_by (Z : Facts K mg cl.a) : FnOk P w K mg base (L2.CX P w) 2 Z.a_order_by Z.fd_order_by ["rings"] (spM K cl fn_order_by) :=
  den_def (N := ["rings", "boxes", "ring", "names", "k"]) (m := m_order_by) Z.F_order_by sc_order_by fun cdv A outer s H E hr => (den_cons (den_set 1 sc_order_by.nd (den_lst den_args0)) (den_cons (den_for (passes_of rfl) rfl (den_it (den_var 0)) (den_tname 2 sc_order_by.nd) (den_last (den_expr (den_mutB 1 PySem.F.slot_list_extend PySem.F.type_list_extend mt_extA ext_ok (den_args (den_var 2) den_args0))))) (den_cons (den_if (PW.pt (den_or (den_not (den_tru (den_call (ok_is_each_once (P := P) (w := w) (base := base) (cl := cl) Z) (takes_of rfl rfl rfl rfl) (hr.mono (by decide)) (by rfl) Z.g_is_each_once Z.F_is_each_once.kp Z.b_is_each_once (den_args (den_var 1) den_args0)))) (den_or1 (den_cmpt op_inM in_ok den_int (den_lc (own := [("ring", 2)]) rfl sc_order_by.nd (stOk1 2) (by decide) (den_it (den_var 0)) (blkOk_by (by rfl)) (fun _ _ _ _ _ => pg_name (i := 2) sc_order_by.nd rfl (.inl rfl)) (fun _ _ _ _ _ => den_yes) (fun _ _ _ _ _ => (den_callB call_len len_ok (by rfl) Z.z_len PySem.boot_len (den_args (den_var 2) den_args0)))))))) (den_last (den_raise .BadOrder Z.o_BadOrder rfl (takes_of rfl rfl rfl rfl) (by rfl))) den_nil) (den_cons (den_set 3 sc_order_by.nd (den_mul (den_lst (den_args den_int den_args0)) (den_callB call_len len_ok (by rfl) Z.z_len PySem.boot_len (den_args (den_var 1) den_args0)))) (den_cons (den_for (passes_of rfl) rfl (den_it (den_var 0)) (den_tname 2 sc_order_by.nd) (den_last (den_for (passes_of rfl) rfl (den_rng1 (by rfl) Z.z_range (den_args (den_callB call_len len_ok (by rfl) Z.z_len PySem.boot_len (den_args (den_var 2) den_args0)) den_args0)) (den_tname 4 sc_order_by.nd) (den_last (den_asg (den_item (den_var 2) (den_var 4)) (den_tsub (W := W0) 3 (den_item (den_var 2) (den_sub (den_var 4) den_int)))))))) (den_last (den_ret (den_callTy call_tuple_of tuple_ok (by rfl) Z.z_tuple PyProof.Rows.boot_tuple (den_args (den_var 3) den_args0)))))))))
theorem ok__law_whole (Z : Facts K mg cl.a) : FnOk P w K mg base (L2.CX P w) 1 Z.a__law_whole Z.fd__law_whole ["found"] (spM K cl fn__law_whole) :=
  den_def (N := ["found"]) (m := m__law_whole) Z.F__law_whole sc__law_whole fun cdv A outer s H E hr => (den_last (den_ret (den_andV (den_isi .int (by rfl) Z.z_isinstance (by rfl) Z.z_int PyProof.Rows.boot_int (den_var 0)) (den_one (den_notV (den_isi .bool (by rfl) Z.z_isinstance (by rfl) Z.z_bool PyProof.Rows.boot_bool (den_var 0)))))))
theorem ok__law_is_order (Z : Facts K mg cl.a) : FnOk P w K mg base (L2.CX P w) 2 Z.a__law_is_order Z.fd__law_is_order ["found", "many"] (spM K cl fn__law_is_order) :=
  den_def (N := ["found", "many", "name"]) (m := m__law_is_order) Z.F__law_is_order sc__law_is_order fun cdv A outer s H E hr => (den_cons (den_if (PW.pt (den_or (den_not (den_tru (den_isi .tuple (by rfl) Z.z_isinstance (by rfl) Z.z_tuple PyProof.Rows.boot_tuple (den_var 0)))) (den_or (den_cmpt (op_neM hr.units) ne_ok (den_callB call_len len_ok (by rfl) Z.z_len PySem.boot_len (den_args (den_var 0) den_args0)) (den_var 1)) (den_or1 (den_not (den_tru (den_callB (cr_all rfl) all_ok (by rfl) Z.z_all PyProof.Rows.boot_all (den_args (den_lc (own := [("name", 2)]) rfl sc__law_is_order.nd (stOk1 2) (by decide) (den_it (den_var 0)) (blkOk_by (by rfl)) (fun _ _ _ _ _ => pg_name (i := 2) sc__law_is_order.nd rfl (.inl rfl)) (fun _ _ _ _ _ => den_yes) (fun _ _ _ _ _ => (den_call (ok__law_whole (P := P) (w := w) (base := base) (cl := cl) Z) MP.takes0 (hr.mono (by decide)) (by rfl) Z.g__law_whole Z.F__law_whole.kp Z.b__law_whole (den_args (den_var 2) den_args0)))) den_args0)))))))) (den_last (den_ret den_bl)) den_nil) (den_last (den_ret (den_cmp (op_eqM hr.units) eq_ok (den_callB (cr_sortedI.or cr_sortedTu) sorted_ok (by rfl) Z.z_sorted PyProof.Rows.boot_sorted (den_args (den_var 0) den_args0)) (den_lrg1 rfl (by rfl) Z.z_list (by rfl) Z.z_range (den_var 1))))))
theorem ok__law_refused (Z : Facts K mg cl.a) : FnOk P w K mg base (L2.CX P w) 3 Z.a__law_refused Z.fd__law_refused ["rings"] (spM K cl fn__law_refused) :=
  den_def (N := ["rings", "error", "e"]) (m := m__law_refused) Z.F__law_refused sc__law_refused fun cdv A outer s H E hr => (den_cons (den_set 1 sc__law_refused.nd den_non) (den_cons (den_try caught 2 1 rfl rfl sc__law_refused.nd ⟨by rfl, by decide, .inl Z.g_BoxError⟩ Z.x_BoxError (fun W pn xe tk hp => (den_last (den_expr (den_call (ok_order_by (P := P) (w := w) (base := base) (cl := cl) Z) tk (hr.mono (by decide)) (by rfl) Z.g_order_by Z.F_order_by.kp Z.b_order_by (den_args (den_var 0) den_args0)))))) (den_cons (den_if (PW.pt (den_or (den_not (den_tru (den_is1 ist_0 1 (by rfl) Z.z_isinstance (pe_glob (v := .ref (cl .BadOrder)) (by rfl) Z.g_BadOrder rfl) (.own _) Z.i_0 Z.n_0))) (den_or1 (den_not (den_tru (den_is1 ist_1 1 (by rfl) Z.z_isinstance (pe_bltn (v := .ty "ValueError") (by rfl) Z.z_ValueError MP.boot_VE rfl) (.ty _) Z.i_1 Z.n_1)))))) (den_last (den_ret den_bl)) den_nil) (den_last (den_ret (den_notV (den_isT ist_2 1 (by rfl) Z.z_isinstance (pa_cc (pe_glob (v := .ref (cl .BadBox)) (by rfl) Z.g_BadBox rfl) (pa_cc (pe_glob (v := .ref (cl .BadOpenings)) (by rfl) Z.g_BadOpenings rfl) (pa_cc (pe_glob (v := .ref (cl .NoNumber)) (by rfl) Z.g_NoNumber rfl) (pa_cc (pe_glob (v := .ref (cl .TooMany)) (by rfl) Z.g_TooMany rfl) pa_c0)))) (.cons (.own _) (.cons (.own _) (.cons (.own _) (.cons (.own _) .nil)))) (by simp) Z.i_2 Z.n_2)))))))
theorem ok__law_spoilt (Z : Facts K mg cl.a) : FnOk P w K mg base (L2.CX P w) 1 Z.a__law_spoilt Z.fd__law_spoilt ["rings", "many", "way", "cell"] (spM K cl fn__law_spoilt) :=
  den_def (N := ["rings", "many", "way", "cell", "found", "at", "far", "ring"]) (m := m__law_spoilt) Z.F__law_spoilt sc__law_spoilt fun cdv A outer s H E hr => (den_cons (den_nlc 4 0 7 rfl sc__law_spoilt.nd (by rfl) (by rfl) (blkOk_by (by rfl)) (fun _ _ _ _ _ => pg_name (i := 7) sc__law_spoilt.nd rfl (.inl rfl)) (fun _ _ _ _ _ => pe_lst1 7 (by rfl) Z.z_list PyProof.Rows.boot_list)) (den_cons (den_set 5 sc__law_spoilt.nd (den_mod (den_var 3) (den_nlen 4 (by rfl) Z.z_len PySem.boot_len))) (den_cons (den_set 6 sc__law_spoilt.nd (den_mod (den_div (den_var 3) den_int) (den_pow den_int den_int))) (den_cons (den_if (den_cmpt (op_eqM hr.units) eq_ok (den_var 2) den_int) (den_last (den_expr (den_nins 4 (den_args (den_var 5) (den_args (den_lst den_args0) den_args0))))) (den_last (den_if (den_cmpt (op_eqM hr.units) eq_ok (den_var 2) den_int) (den_last (den_expr (den_napp0 4 5))) (den_last (den_if (den_cmpt (op_eqM hr.units) eq_ok (den_var 2) den_int) (den_last (den_expr (den_npushL 4 (den_args (den_lst (den_args (den_mod (den_div (den_var 3) den_int) (den_var 1)) den_args0)) den_args0)))) (den_last (den_if (den_cmpt (op_eqM hr.units) eq_ok (den_var 2) den_int) (den_last (den_nset 4 5 (den_add (den_var 1) (den_var 6)) pe_int)) (den_last (den_if (den_cmpt (op_eqM hr.units) eq_ok (den_var 2) den_int) (den_last (den_nset 4 5 (den_sub (den_neg den_int) (den_var 6)) pe_neg1)) (den_last (den_if (den_cmpt (op_eqM hr.units) eq_ok (den_var 2) den_int) (den_last (den_expr (den_npushL 4 (den_args (den_lst (den_args (den_add (den_add (den_var 1) den_int) (den_var 6)) den_args0)) den_args0)))) (den_last (den_set 4 sc__law_spoilt.nd (den_lst den_args0)))))))))))))) (den_last (den_ret (den_ntake 4)))))))
theorem ok_law (Z : Facts K mg cl.a) : FnOk P w K mg base (L2.CX P w) 4 Z.a_law Z.fd_law ["script"] (spM K cl fn_law) :=
  den_def (N := ["script", "many", "cell", "order", "rings", "handed", "found", "way", "ring"]) (m := m_law) Z.F_law sc_law fun cdv A outer s H E hr => (den_cons (den_set 1 sc_law.nd (den_call (ok__law_many (P := P) (w := w) (base := base) (cl := cl) Z) (takes_of rfl rfl rfl rfl) (hr.mono (by decide)) (by rfl) Z.g__law_many Z.F__law_many.kp Z.b__law_many (den_args (den_var 0) den_args0))) (den_cons (den_set 2 sc_law.nd (den_call (ok__law_all (P := P) (w := w) (base := base) (cl := cl) Z) (takes_of rfl rfl rfl rfl) (hr.mono (by decide)) (by rfl) Z.g__law_all Z.F__law_all.kp Z.b__law_all (den_args (den_var 0) den_args0))) (den_cons (den_set 3 sc_law.nd (den_call (ok__law_order (P := P) (w := w) (base := base) (cl := cl) Z) (takes_of rfl rfl rfl rfl) (hr.mono (by decide)) (by rfl) Z.g__law_order Z.F__law_order.kp Z.b__law_order (den_args (den_var 2) (den_args (den_var 1) den_args0)))) (den_cons (den_set 4 sc_law.nd (den_call (ok__law_told (P := P) (w := w) (base := base) (cl := cl) Z) (takes_of rfl rfl rfl rfl) (hr.mono (by decide)) (by rfl) Z.g__law_told Z.F__law_told.kp Z.b__law_told (den_args (den_call (ok__law_rings (P := P) (w := w) (base := base) (cl := cl) Z) (takes_of rfl rfl rfl rfl) (hr.mono (by decide)) (by rfl) Z.g__law_rings Z.F__law_rings.kp Z.b__law_rings (den_args (den_var 3) den_args0)) (den_args (den_div (den_var 2) den_int) den_args0)))) (den_cons (den_setLc 5 (own := [("ring", 8)]) rfl sc_law.nd (stOk1 8) (by decide) (by rfl) (by rfl) (den_it (den_var 4)) (blkOk_by (by rfl)) (fun _ _ _ _ _ => pg_name (i := 8) sc_law.nd rfl (.inl rfl)) (fun _ _ _ _ _ => den_yes) (fun _ _ _ _ _ => (den_callTy call_list_of list_ok (by rfl) Z.z_list PyProof.Rows.boot_list (den_args (den_var 8) den_args0)))) (den_cons (den_set 6 sc_law.nd (den_call (ok_order_by (P := P) (w := w) (base := base) (cl := cl) Z) (takes_of rfl rfl rfl rfl) (hr.mono (by decide)) (by rfl) Z.g_order_by Z.F_order_by.kp Z.b_order_by (den_args (den_var 4) den_args0))) (den_cons (den_if (PW.pt (den_or (den_not (den_tru (den_call (ok__law_is_order (P := P) (w := w) (base := base) (cl := cl) Z) (takes_of rfl rfl rfl rfl) (hr.mono (by decide)) (by rfl) Z.g__law_is_order Z.F__law_is_order.kp Z.b__law_is_order (den_args (den_var 6) (den_args (den_var 1) den_args0))))) (den_or (den_cmpt (op_neM hr.units) ne_ok (den_var 6) (den_var 3)) (den_or1 (den_cmpt (op_neM hr.units) ne_ok (den_lc (own := [("ring", 8)]) rfl sc_law.nd (stOk1 8) (by decide) (den_it (den_var 4)) (blkOk_by (by rfl)) (fun _ _ _ _ _ => pg_name (i := 8) sc_law.nd rfl (.inl rfl)) (fun _ _ _ _ _ => den_yes) (fun _ _ _ _ _ => (den_callTy call_list_of list_ok (by rfl) Z.z_list PyProof.Rows.boot_list (den_args (den_var 8) den_args0)))) (den_var 5)))))) (den_last (den_ret den_bl)) den_nil) (den_cons (den_for (passes_of rfl) rfl (den_rng1 (by rfl) Z.z_range (den_args den_int den_args0)) (den_tname 7 sc_law.nd) (den_last (den_if (den_not (den_tru (den_call (ok__law_refused (P := P) (w := w) (base := base) (cl := cl) Z) (takes_of rfl rfl rfl rfl) (hr.mono (by decide)) (by rfl) Z.g__law_refused Z.F__law_refused.kp Z.b__law_refused (den_args (den_call (ok__law_spoilt (P := P) (w := w) (base := base) (cl := cl) Z) (takes_of rfl rfl rfl rfl) (hr.mono (by decide)) (by rfl) Z.g__law_spoilt Z.F__law_spoilt.kp Z.b__law_spoilt (den_args (den_var 4) (den_args (den_var 1) (den_args (den_var 7) (den_args (den_div (den_var 2) den_int) den_args0))))) den_args0)))) (den_last (den_ret den_bl)) den_nil))) (den_last (den_ret (den_call (ok__law_refused (P := P) (w := w) (base := base) (cl := cl) Z) (takes_of rfl rfl rfl rfl) (hr.mono (by decide)) (by rfl) Z.g__law_refused Z.F__law_refused.kp Z.b__law_refused (den_args (den_lst (den_args (den_lrg1 rfl (by rfl) Z.z_list (by rfl) Z.z_range den_int) den_args0)) den_args0))))))))))))
end
/-! ### the law's own head -/
def clOf (tT : List (Addr × Str)) (C0 C1 C2 C3 C4 C5 : Addr) : Cl := Cl.mk (fun c => match c with | .BoxError => C0 | .BadOrder => C1 | .BadBox => C2 | .BadOpenings => C3 | .TooMany => C4 | .NoNumber => C5 | _ => (0 : Nat)) tT none
theorem all_mk {l : PySem.W.OpenLaw} {w : World} {K : PySem.W.Frag} {h : Heap} {mg : Str → Option Value} {fa : Addr} (X : K.In h) (G : h.Ns mainGlobals mg) (hfa : mg "law" = some (.ref fa))
    {f0 : Addr} {od0 an0 : Option Addr} {sl0 : Array (Option Value)} {oc0 kV0 dc0 pm0 cd0 ct0 : Value} {f1 : Addr} {od1 an1 : Option Addr} {sl1 : Array (Option Value)} {oc1 kV1 dc1 pm1 cd1 ct1 : Value} {f2 : Addr} {od2 an2 : Option Addr} {sl2 : Array (Option Value)} {oc2 kV2 dc2 pm2 cd2 ct2 : Value} {f3 : Addr} {od3 an3 : Option Addr} {sl3 : Array (Option Value)} {oc3 kV3 dc3 pm3 cd3 ct3 : Value} {f4 : Addr} {od4 an4 : Option Addr} {sl4 : Array (Option Value)} {oc4 kV4 dc4 pm4 cd4 ct4 : Value} {f5 : Addr} {od5 an5 : Option Addr} {sl5 : Array (Option Value)} {oc5 kV5 dc5 pm5 cd5 ct5 : Value} {f6 : Addr} {od6 an6 : Option Addr} {sl6 : Array (Option Value)} {oc6 kV6 dc6 pm6 cd6 ct6 : Value} {f7 : Addr} {od7 an7 : Option Addr} {sl7 : Array (Option Value)} {oc7 kV7 dc7 pm7 cd7 ct7 : Value} {f8 : Addr} {od8 an8 : Option Addr} {sl8 : Array (Option Value)} {oc8 kV8 dc8 pm8 cd8 ct8 : Value} {f9 : Addr} {od9 an9 : Option Addr} {sl9 : Array (Option Value)} {oc9 kV9 dc9 pm9 cd9 ct9 : Value} {f10 : Addr} {od10 an10 : Option Addr} {sl10 : Array (Option Value)} {oc10 kV10 dc10 pm10 cd10 ct10 : Value} {f11 : Addr} {od11 an11 : Option Addr} {sl11 : Array (Option Value)} {oc11 kV11 dc11 pm11 cd11 ct11 : Value} {f12 : Addr} {od12 an12 : Option Addr} {sl12 : Array (Option Value)} {oc12 kV12 dc12 pm12 cd12 ct12 : Value} {tk0 : Tok} {C0 C1 C2 C3 C4 C5 : Addr}
    (a0 : PySem.W.nsIn K mainGlobals "_law_cell_at" = some (some (.ref f0))) (l0 : K.lookup f0 = some ⟨oc0, od0, .func (PySem.W.fnOf "_law_cell_at" "_law_cell_at" (defArgs s__law_cell_at) (defBody s__law_cell_at) (defScope s__law_cell_at) .none kV0 dc0 pm0 an0 cd0 ct0), sl0⟩) (c0 : PySem.W.codeIn K cd0 "_law_cell_at" = true) (k0 : PySem.W.keepIn K (.ref f0) = true)
    (a1 : PySem.W.nsIn K mainGlobals "_law_many" = some (some (.ref f1))) (l1 : K.lookup f1 = some ⟨oc1, od1, .func (PySem.W.fnOf "_law_many" "_law_many" (defArgs s__law_many) (defBody s__law_many) (defScope s__law_many) .none kV1 dc1 pm1 an1 cd1 ct1), sl1⟩) (c1 : PySem.W.codeIn K cd1 "_law_many" = true) (k1 : PySem.W.keepIn K (.ref f1) = true)
    (a2 : PySem.W.nsIn K mainGlobals "_law_all" = some (some (.ref f2))) (l2 : K.lookup f2 = some ⟨oc2, od2, .func (PySem.W.fnOf "_law_all" "_law_all" (defArgs s__law_all) (defBody s__law_all) (defScope s__law_all) .none kV2 dc2 pm2 an2 cd2 ct2), sl2⟩) (c2 : PySem.W.codeIn K cd2 "_law_all" = true) (k2 : PySem.W.keepIn K (.ref f2) = true)
    (a3 : PySem.W.nsIn K mainGlobals "_law_order" = some (some (.ref f3))) (l3 : K.lookup f3 = some ⟨oc3, od3, .func (PySem.W.fnOf "_law_order" "_law_order" (defArgs s__law_order) (defBody s__law_order) (defScope s__law_order) .none kV3 dc3 pm3 an3 cd3 ct3), sl3⟩) (c3 : PySem.W.codeIn K cd3 "_law_order" = true) (k3 : PySem.W.keepIn K (.ref f3) = true)
    (a4 : PySem.W.nsIn K mainGlobals "_law_told" = some (some (.ref f4))) (l4 : K.lookup f4 = some ⟨oc4, od4, .func (PySem.W.fnOf "_law_told" "_law_told" (defArgs s__law_told) (defBody s__law_told) (defScope s__law_told) .none kV4 dc4 pm4 an4 cd4 ct4), sl4⟩) (c4 : PySem.W.codeIn K cd4 "_law_told" = true) (k4 : PySem.W.keepIn K (.ref f4) = true)
    (a5 : PySem.W.nsIn K mainGlobals "_law_rings" = some (some (.ref f5))) (l5 : K.lookup f5 = some ⟨oc5, od5, .func (PySem.W.fnOf "_law_rings" "_law_rings" (defArgs s__law_rings) (defBody s__law_rings) (defScope s__law_rings) .none kV5 dc5 pm5 an5 cd5 ct5), sl5⟩) (c5 : PySem.W.codeIn K cd5 "_law_rings" = true) (k5 : PySem.W.keepIn K (.ref f5) = true)
    (a6 : PySem.W.nsIn K mainGlobals "is_each_once" = some (some (.ref f6))) (l6 : K.lookup f6 = some ⟨oc6, od6, .func (PySem.W.fnOf "is_each_once" "is_each_once" (defArgs s_is_each_once) (defBody s_is_each_once) (defScope s_is_each_once) .none kV6 dc6 pm6 an6 cd6 ct6), sl6⟩) (c6 : PySem.W.codeIn K cd6 "is_each_once" = true) (k6 : PySem.W.keepIn K (.ref f6) = true)
    (a7 : PySem.W.nsIn K mainGlobals "order_by" = some (some (.ref f7))) (l7 : K.lookup f7 = some ⟨oc7, od7, .func (PySem.W.fnOf "order_by" "order_by" (defArgs s_order_by) (defBody s_order_by) (defScope s_order_by) .none kV7 dc7 pm7 an7 cd7 ct7), sl7⟩) (c7 : PySem.W.codeIn K cd7 "order_by" = true) (k7 : PySem.W.keepIn K (.ref f7) = true)
    (a8 : PySem.W.nsIn K mainGlobals "_law_whole" = some (some (.ref f8))) (l8 : K.lookup f8 = some ⟨oc8, od8, .func (PySem.W.fnOf "_law_whole" "_law_whole" (defArgs s__law_whole) (defBody s__law_whole) (defScope s__law_whole) .none kV8 dc8 pm8 an8 cd8 ct8), sl8⟩) (c8 : PySem.W.codeIn K cd8 "_law_whole" = true) (k8 : PySem.W.keepIn K (.ref f8) = true)
    (a9 : PySem.W.nsIn K mainGlobals "_law_is_order" = some (some (.ref f9))) (l9 : K.lookup f9 = some ⟨oc9, od9, .func (PySem.W.fnOf "_law_is_order" "_law_is_order" (defArgs s__law_is_order) (defBody s__law_is_order) (defScope s__law_is_order) .none kV9 dc9 pm9 an9 cd9 ct9), sl9⟩) (c9 : PySem.W.codeIn K cd9 "_law_is_order" = true) (k9 : PySem.W.keepIn K (.ref f9) = true)
    (a10 : PySem.W.nsIn K mainGlobals "_law_refused" = some (some (.ref f10))) (l10 : K.lookup f10 = some ⟨oc10, od10, .func (PySem.W.fnOf "_law_refused" "_law_refused" (defArgs s__law_refused) (defBody s__law_refused) (defScope s__law_refused) .none kV10 dc10 pm10 an10 cd10 ct10), sl10⟩) (c10 : PySem.W.codeIn K cd10 "_law_refused" = true) (k10 : PySem.W.keepIn K (.ref f10) = true)
    (a11 : PySem.W.nsIn K mainGlobals "_law_spoilt" = some (some (.ref f11))) (l11 : K.lookup f11 = some ⟨oc11, od11, .func (PySem.W.fnOf "_law_spoilt" "_law_spoilt" (defArgs s__law_spoilt) (defBody s__law_spoilt) (defScope s__law_spoilt) .none kV11 dc11 pm11 an11 cd11 ct11), sl11⟩) (c11 : PySem.W.codeIn K cd11 "_law_spoilt" = true) (k11 : PySem.W.keepIn K (.ref f11) = true)
    (a12 : PySem.W.nsIn K mainGlobals "law" = some (some (.ref f12))) (l12 : K.lookup f12 = some ⟨oc12, od12, .func (PySem.W.fnOf "law" "law" (defArgs s_law) (defBody s_law) (defScope s_law) .none kV12 dc12 pm12 an12 cd12 ct12), sl12⟩) (c12 : PySem.W.codeIn K cd12 "law" = true) (k12 : PySem.W.keepIn K (.ref f12) = true)
    (z0 : PySem.W.nsIn K mainGlobals "MOST_BOXES" = some (some (.int 60 tk0)))
    (z1 : PySem.W.nsIn K mainGlobals "ValueError" = some none)
    (z2 : PySem.W.nsIn K mainGlobals "all" = some none)
    (z3 : PySem.W.nsIn K mainGlobals "bool" = some none)
    (z4 : PySem.W.nsIn K mainGlobals "int" = some none)
    (z5 : PySem.W.nsIn K mainGlobals "isinstance" = some none)
    (z6 : PySem.W.nsIn K mainGlobals "len" = some none)
    (z7 : PySem.W.nsIn K mainGlobals "list" = some none)
    (z8 : PySem.W.nsIn K mainGlobals "range" = some none)
    (z9 : PySem.W.nsIn K mainGlobals "sorted" = some none)
    (z10 : PySem.W.nsIn K mainGlobals "tuple" = some none)
    (y0 : PySem.W.nsIn K mainGlobals "BoxError" = some (some (.ref C0)))
    (y1 : PySem.W.nsIn K mainGlobals "BadOrder" = some (some (.ref C1)))
    (y2 : PySem.W.nsIn K mainGlobals "BadBox" = some (some (.ref C2)))
    (y3 : PySem.W.nsIn K mainGlobals "BadOpenings" = some (some (.ref C3)))
    (y4 : PySem.W.nsIn K mainGlobals "TooMany" = some (some (.ref C4)))
    (y5 : PySem.W.nsIn K mainGlobals "NoNumber" = some (some (.ref C5)))
    (yk1 : PySem.W.keepIn K (.ref C1) = true)
    (ye1 : PySem.W.excIn K C1 veB "ValueError.__new__" = true)
    (ys1 : PySem.W.subIn K (.ref C1) (.type "BaseException") = some true)
    (yt1 : PySem.W.typeIn K (.ref C1) = some (.type "type"))
    (yg1 : PySem.W.findIn K (.ref C1) "__getattribute__" = some (some (.builtin "BaseException.__getattribute__")))
    (ya1 : PySem.W.findIn K (.ref C1) "__getattr__" = some none)
    (yd1 : PySem.W.hasDictIn K C1 = true)
    (yc1 : PySem.W.findIn K (.ref C1) "__class__" = some (some (.builtin "object.__class__")))
    (ym1 : PySem.W.mroIn K C1 (.type "object") = some true)
    (yx1_0 : PySem.W.exmOne K (.ref C1) (.ref C0) = some true)
    (yi1_0 : PySem.W.kitOne K (.ref C1) (.ref (C1)) = some true)
    (yi1_1 : PySem.W.kitOne K (.ref C1) (.type "ValueError") = some true)
    (yi1_2 : PySem.W.kitAny K (.ref C1) [.ref (C2), .ref (C3), .ref (C5), .ref (C4)] = some false)
    (ysp : PySem.W.specialIn K (.builtin "object.__class__") "__get__" = some (some (.builtin "getset_descriptor.__get__")))
    (ytk : PySem.W.takesIn K (.builtin "object.__class__") = some true)
    (yn0 : PySem.W.kitOne K (.type "NoneType") (.ref (C1)) = some false)
    (yn1 : PySem.W.kitOne K (.type "NoneType") (.type "ValueError") = some false)
    (yn2 : PySem.W.kitAny K (.type "NoneType") [.ref (C2), .ref (C3), .ref (C5), .ref (C4)] = some false)
    : ∃ fd : FuncData, (∀ (s : Shared) (v : Value), BindsTo s fd ⟨[v], []⟩ [("script", v)]) ∧ ∀ base : Heap, K.In base → base.Ns mainGlobals mg → FnOk l.prog w K mg base (L2.CX l.prog w) 4 fa fd ["script"] (spOk K [] fn_law) := by
  have e := hfa.symm.trans (PySem.W.mg_of X G a12)
  cases e
  have F0 := fun_mk (st := s__law_cell_at) l0 c0 k0
  have b0 := F0.binds (ps := ["script", "k"]) fun _ _ _ _ _ _ us hl => match us, hl with | [_, _], _ => rfl
  have F1 := fun_mk (st := s__law_many) l1 c1 k1
  have b1 := F1.binds (ps := ["script"]) fun _ _ _ _ _ _ us hl => match us, hl with | [_], _ => rfl
  have F2 := fun_mk (st := s__law_all) l2 c2 k2
  have b2 := F2.binds (ps := ["script"]) fun _ _ _ _ _ _ us hl => match us, hl with | [_], _ => rfl
  have F3 := fun_mk (st := s__law_order) l3 c3 k3
  have b3 := F3.binds (ps := ["cell", "many"]) fun _ _ _ _ _ _ us hl => match us, hl with | [_, _], _ => rfl
  have F4 := fun_mk (st := s__law_told) l4 c4 k4
  have b4 := F4.binds (ps := ["rings", "cell"]) fun _ _ _ _ _ _ us hl => match us, hl with | [_, _], _ => rfl
  have F5 := fun_mk (st := s__law_rings) l5 c5 k5
  have b5 := F5.binds (ps := ["order"]) fun _ _ _ _ _ _ us hl => match us, hl with | [_], _ => rfl
  have F6 := fun_mk (st := s_is_each_once) l6 c6 k6
  have b6 := F6.binds (ps := ["numbers"]) fun _ _ _ _ _ _ us hl => match us, hl with | [_], _ => rfl
  have F7 := fun_mk (st := s_order_by) l7 c7 k7
  have b7 := F7.binds (ps := ["rings"]) fun _ _ _ _ _ _ us hl => match us, hl with | [_], _ => rfl
  have F8 := fun_mk (st := s__law_whole) l8 c8 k8
  have b8 := F8.binds (ps := ["found"]) fun _ _ _ _ _ _ us hl => match us, hl with | [_], _ => rfl
  have F9 := fun_mk (st := s__law_is_order) l9 c9 k9
  have b9 := F9.binds (ps := ["found", "many"]) fun _ _ _ _ _ _ us hl => match us, hl with | [_, _], _ => rfl
  have F10 := fun_mk (st := s__law_refused) l10 c10 k10
  have b10 := F10.binds (ps := ["rings"]) fun _ _ _ _ _ _ us hl => match us, hl with | [_], _ => rfl
  have F11 := fun_mk (st := s__law_spoilt) l11 c11 k11
  have b11 := F11.binds (ps := ["rings", "many", "way", "cell"]) fun _ _ _ _ _ _ us hl => match us, hl with | [_, _, _, _], _ => rfl
  have F12 := fun_mk (st := s_law) l12 c12 k12
  have b12 := F12.binds (ps := ["script"]) fun _ _ _ _ _ _ us hl => match us, hl with | [_], _ => rfl
  have E1 : ExcC K C1 := ⟨yg1, ya1, ys1, yd1, yc1, ysp, ytk, ym1⟩
  let Z : Facts K mg (clOf [] C0 C1 C2 C3 C4 C5).a := { a__law_cell_at := _, fd__law_cell_at := _, F__law_cell_at := F0, b__law_cell_at := b0, g__law_cell_at := PySem.W.mg_of X G a0, a__law_many := _, fd__law_many := _, F__law_many := F1, b__law_many := b1, g__law_many := PySem.W.mg_of X G a1, a__law_all := _, fd__law_all := _, F__law_all := F2, b__law_all := b2, g__law_all := PySem.W.mg_of X G a2, a__law_order := _, fd__law_order := _, F__law_order := F3, b__law_order := b3, g__law_order := PySem.W.mg_of X G a3, a__law_told := _, fd__law_told := _, F__law_told := F4, b__law_told := b4, g__law_told := PySem.W.mg_of X G a4, a__law_rings := _, fd__law_rings := _, F__law_rings := F5, b__law_rings := b5, g__law_rings := PySem.W.mg_of X G a5, a_is_each_once := _, fd_is_each_once := _, F_is_each_once := F6, b_is_each_once := b6, g_is_each_once := PySem.W.mg_of X G a6, a_order_by := _, fd_order_by := _, F_order_by := F7, b_order_by := b7, g_order_by := PySem.W.mg_of X G a7, a__law_whole := _, fd__law_whole := _, F__law_whole := F8, b__law_whole := b8, g__law_whole := PySem.W.mg_of X G a8, a__law_is_order := _, fd__law_is_order := _, F__law_is_order := F9, b__law_is_order := b9, g__law_is_order := PySem.W.mg_of X G a9, a__law_refused := _, fd__law_refused := _, F__law_refused := F10, b__law_refused := b10, g__law_refused := PySem.W.mg_of X G a10, a__law_spoilt := _, fd__law_spoilt := _, F__law_spoilt := F11, b__law_spoilt := b11, g__law_spoilt := PySem.W.mg_of X G a11, a_law := _, fd_law := _, F_law := F12, b_law := b12, g_law := PySem.W.mg_of X G a12, t_MOST_BOXES := _, c_MOST_BOXES := PySem.W.mg_of X G z0, z_ValueError := PySem.W.mg_none_of X G z1, z_all := PySem.W.mg_none_of X G z2, z_bool := PySem.W.mg_none_of X G z3, z_int := PySem.W.mg_none_of X G z4, z_isinstance := PySem.W.mg_none_of X G z5, z_len := PySem.W.mg_none_of X G z6, z_list := PySem.W.mg_none_of X G z7, z_range := PySem.W.mg_none_of X G z8, z_sorted := PySem.W.mg_none_of X G z9, z_tuple := PySem.W.mg_none_of X G z10, g_BoxError := PySem.W.mg_of X G y0, g_BadOrder := PySem.W.mg_of X G y1, g_BadBox := PySem.W.mg_of X G y2, g_BadOpenings := PySem.W.mg_of X G y3, g_TooMany := PySem.W.mg_of X G y4, g_NoNumber := PySem.W.mg_of X G y5, o_BadOrder := ⟨PySem.W.mg_of X G y1, yk1, ye1, ys1, yt1, E1⟩, x_BoxError := (fun e => match e with | .BoxError => fun h => nomatch (show false = true from h) | .BadOrder => fun _ => yx1_0 | .BadBox => fun h => nomatch (show false = true from h) | .BadOpenings => fun h => nomatch (show false = true from h) | .NoPerson => fun h => nomatch (show false = true from h) | .TooMany => fun h => nomatch (show false = true from h) | .NoNumber => fun h => nomatch (show false = true from h) | .BadPlan => fun h => nomatch (show false = true from h) | .NoHelp => fun h => nomatch (show false = true from h) | .BadGroup => fun h => nomatch (show false = true from h) | .BadText => fun h => nomatch (show false = true from h)), i_0 := (fun c => match c with | .BoxError => fun b h => nomatch (show (none : Option Bool) = some b from h) | .BadOrder => fun b h => (by cases (show some true = some b from h); exact ⟨E1, yi1_0⟩) | .BadBox => fun b h => nomatch (show (none : Option Bool) = some b from h) | .BadOpenings => fun b h => nomatch (show (none : Option Bool) = some b from h) | .NoPerson => fun b h => nomatch (show (none : Option Bool) = some b from h) | .TooMany => fun b h => nomatch (show (none : Option Bool) = some b from h) | .NoNumber => fun b h => nomatch (show (none : Option Bool) = some b from h) | .BadPlan => fun b h => nomatch (show (none : Option Bool) = some b from h) | .NoHelp => fun b h => nomatch (show (none : Option Bool) = some b from h) | .BadGroup => fun b h => nomatch (show (none : Option Bool) = some b from h) | .BadText => fun b h => nomatch (show (none : Option Bool) = some b from h)), n_0 := yn0, i_1 := (fun c => match c with | .BoxError => fun b h => nomatch (show (none : Option Bool) = some b from h) | .BadOrder => fun b h => (by cases (show some true = some b from h); exact ⟨E1, yi1_1⟩) | .BadBox => fun b h => nomatch (show (none : Option Bool) = some b from h) | .BadOpenings => fun b h => nomatch (show (none : Option Bool) = some b from h) | .NoPerson => fun b h => nomatch (show (none : Option Bool) = some b from h) | .TooMany => fun b h => nomatch (show (none : Option Bool) = some b from h) | .NoNumber => fun b h => nomatch (show (none : Option Bool) = some b from h) | .BadPlan => fun b h => nomatch (show (none : Option Bool) = some b from h) | .NoHelp => fun b h => nomatch (show (none : Option Bool) = some b from h) | .BadGroup => fun b h => nomatch (show (none : Option Bool) = some b from h) | .BadText => fun b h => nomatch (show (none : Option Bool) = some b from h)), n_1 := yn1, i_2 := (fun c => match c with | .BoxError => fun b h => nomatch (show (none : Option Bool) = some b from h) | .BadOrder => fun b h => (by cases (show some false = some b from h); exact ⟨E1, yi1_2⟩) | .BadBox => fun b h => nomatch (show (none : Option Bool) = some b from h) | .BadOpenings => fun b h => nomatch (show (none : Option Bool) = some b from h) | .NoPerson => fun b h => nomatch (show (none : Option Bool) = some b from h) | .TooMany => fun b h => nomatch (show (none : Option Bool) = some b from h) | .NoNumber => fun b h => nomatch (show (none : Option Bool) = some b from h) | .BadPlan => fun b h => nomatch (show (none : Option Bool) = some b from h) | .NoHelp => fun b h => nomatch (show (none : Option Bool) = some b from h) | .BadGroup => fun b h => nomatch (show (none : Option Bool) = some b from h) | .BadText => fun b h => nomatch (show (none : Option Bool) = some b from h)), n_2 := yn2 }
  exact ⟨_, fun s v => .of_eq rfl, fun base _ _ => (ok_law (cl := (clOf [] C0 C1 C2 C3 C4 C5)) Z).imp fun _ _ _ _ h => spOk_of h⟩
end L_k03

namespace L_k03
open PySem PySem.Spec L2 MP
/-! ### orders and rings, plainly -/
/-- the name in a box -/
def gat (o : List Nat) (i : Nat) : Nat := o.getD i 0
/-- o holds each of the numbers below n once -/
def IsOrd (o : List Nat) (n : Nat) : Prop := o.Perm (List.range n)
theorem IsOrd.len {o : List Nat} {n : Nat} (h : IsOrd o n) : o.length = n := by have := h.length_eq; simpa using this
theorem IsOrd.nodup {o : List Nat} {n : Nat} (h : IsOrd o n) : o.Nodup := h.nodup_iff.mpr List.nodup_range
theorem IsOrd.mem {o : List Nat} {n x : Nat} (h : IsOrd o n) : x ∈ o ↔ x < n := by rw [h.mem_iff, List.mem_range]
theorem gat_eq {o : List Nat} {i : Nat} (h : i < o.length) : gat o i = o[i] := by unfold gat; rw [List.getD_eq_getElem?_getD, List.getElem?_eq_getElem h]; rfl
theorem IsOrd.lt {o : List Nat} {n i : Nat} (h : IsOrd o n) (hi : i < n) : gat o i < n := by
  rw [gat_eq (by rw [h.len]; exact hi)]
  exact h.mem.mp (List.getElem_mem _)
theorem IsOrd.inj {o : List Nat} {n i j : Nat} (h : IsOrd o n) (hi : i < n) (hj : j < n) (e : gat o i = gat o j) : i = j := by
  rw [gat_eq (by rw [h.len]; exact hi), gat_eq (by rw [h.len]; exact hj)] at e
  exact (List.getElem_inj h.nodup).mp e
/-- a walk from b on, each next one the name in the one ahead -/
structure Path (o : List Nat) (n b : Nat) (r : List Nat) : Prop where
  hd : r[0]? = some b
  lt : ∀ x ∈ r, x < n
  nd : r.Nodup
  st : ∀ (i : Nat) (h : i + 1 < r.length), gat o r[i] = r[i + 1]
theorem Path.ne {o : List Nat} {n b : Nat} {r : List Nat} (h : Path o n b r) : r ≠ [] := fun e => by have := h.hd; rw [e] at this; simp at this
theorem Path.pos {o : List Nat} {n b : Nat} {r : List Nat} (h : Path o n b r) : 0 < r.length := List.length_pos_iff.mpr h.ne
theorem Path.zero {o : List Nat} {n b : Nat} {r : List Nat} (h : Path o n b r) : r[0]'h.pos = b := by
  have := h.hd
  rw [List.getElem?_eq_getElem h.pos] at this
  exact Option.some.inj this
theorem nodup_len {r : List Nat} {n : Nat} (hn : r.Nodup) (hl : ∀ x ∈ r, x < n) : r.length ≤ n := by
  have hp : r.Perm ((List.range n).filter fun x => decide (x ∈ r)) := (List.perm_ext_iff_of_nodup hn (List.nodup_range.filter _)).mpr fun x => by
    rw [List.mem_filter, List.mem_range, decide_eq_true_eq]
    exact ⟨fun h => ⟨hl x h, h⟩, fun h => h.2⟩
  rw [hp.length_eq]
  have := List.length_filter_le (fun x => decide (x ∈ r)) (List.range n)
  simpa using this
theorem Path.len {o : List Nat} {n b : Nat} {r : List Nat} (h : Path o n b r) : r.length ≤ n := by
  exact nodup_len h.nd h.lt
theorem Path.start {o : List Nat} {n b : Nat} (hb : b < n) : Path o n b [b] := ⟨rfl, fun x hx => by rw [List.mem_singleton.mp hx]; exact hb, by simp, fun i h => by simp at h⟩
theorem getLast_at {r : List Nat} (h : r ≠ []) : r.getLast h = r[r.length - 1]'(by have := List.length_pos_iff.mpr h; omega) := List.getLast_eq_getElem h
/-- one step on -/
theorem Path.next {o : List Nat} {n b : Nat} {r : List Nat} (O : IsOrd o n) (h : Path o n b r) (hb : gat o (r.getLast h.ne) ≠ b) : Path o n b (r ++ [gat o (r.getLast h.ne)]) := by
  have hp := h.pos
  have hlast : r.getLast h.ne < n := h.lt _ (List.getLast_mem _)
  refine ⟨?_, ?_, ?_, ?_⟩
  · rw [List.getElem?_append_left hp]; exact h.hd
  · intro x hx
    rcases List.mem_append.mp hx with hx | hx
    · exact h.lt x hx
    · rw [List.mem_singleton.mp hx]; exact O.lt hlast
  · rw [List.nodup_append]
    refine ⟨h.nd, by simp, fun a ha c hc e => ?_⟩
    rw [List.mem_singleton.mp hc] at e
    obtain ⟨i, hi, ei⟩ := List.getElem_of_mem ha
    cases i with
    | zero =>
      have := h.zero
      rw [ei] at this
      exact hb (by rw [← e]; exact this)
    | succ i =>
      have h1 := h.st i hi
      rw [ei, e] at h1
      have h2 := O.inj (h.lt _ (List.getElem_mem _)) hlast h1
      rw [getLast_at h.ne] at h2
      have h3 := (List.getElem_inj h.nd).mp h2
      omega
  · intro i hi
    rw [List.length_append, List.length_singleton] at hi
    by_cases hl : i + 1 < r.length
    · rw [List.getElem_append_left (by omega), List.getElem_append_left hl]; exact h.st i hl
    · have e : i = r.length - 1 := by omega
      subst e
      rw [List.getElem_append_left (by omega), List.getElem_append_right (by omega)]
      simp [getLast_at h.ne]
/-- the whole ring -/
structure Ring (o : List Nat) (n b : Nat) (r : List Nat) : Prop extends Path o n b r where
  cl : gat o (r.getLast toPath.ne) = b
theorem Ring.step {o : List Nat} {n b : Nat} {r : List Nat} (h : Ring o n b r) {x : Nat} (hx : x ∈ r) : gat o x ∈ r := by
  obtain ⟨i, hi, rfl⟩ := List.getElem_of_mem hx
  by_cases hl : i + 1 < r.length
  · rw [h.st i hl]; exact List.getElem_mem _
  · have e : i = r.length - 1 := by omega
    have := h.cl
    rw [getLast_at] at this
    subst e
    rw [this, ← h.zero]
    exact List.getElem_mem _
/-- where it comes into a set that is closed, its start is in there, too -/
theorem Ring.back {o : List Nat} {n b : Nat} {r : List Nat} (h : Ring o n b r) {S : Nat → Prop} (hS : ∀ x, S x → S (gat o x)) {x : Nat} (hx : x ∈ r) (hs : S x) : S b := by
  obtain ⟨i, hi, rfl⟩ := List.getElem_of_mem hx
  have key : ∀ (d i : Nat) (hi : i < r.length), i + d = r.length - 1 → S r[i] → S b := by
    intro d
    induction d with
    | zero =>
      intro i hi e hs
      have e' : i = r.length - 1 := by omega
      subst e'
      have := hS _ hs
      have hc := h.cl
      rw [getLast_at] at hc
      rw [hc] at this
      exact this
    | succ d ih =>
      intro i hi e hs
      have := hS _ hs
      rw [h.st i (by omega)] at this
      exact ih (i + 1) (by omega) (by omega) this
  exact key (r.length - 1 - i) i hi (by omega) hs
/-- the rings by their least boxes, all boxes below i in them -/
structure Found (o : List Nat) (n i : Nat) (rs : List (List Nat)) : Prop where
  ring : ∀ r ∈ rs, ∃ b, Ring o n b r ∧ b < i ∧ ∀ x ∈ r, b ≤ x
  hds : (rs.map fun r => r.headD 0).Pairwise (· < ·)
  nd : rs.flatten.Nodup
  all : ∀ x, x < i → x ∈ rs.flatten
theorem Found.start {o : List Nat} {n : Nat} : Found o n 0 [] := ⟨fun r h => by simp at h, .nil, by simp, fun x h => absurd h (Nat.not_lt_zero _)⟩
theorem Found.lt {o : List Nat} {n i : Nat} {rs : List (List Nat)} (h : Found o n i rs) : ∀ x ∈ rs.flatten, x < n := fun x hx => by
  obtain ⟨r, hr, hx⟩ := List.mem_flatten.mp hx
  obtain ⟨b, R, _⟩ := h.ring r hr
  exact R.lt x hx
theorem Found.step {o : List Nat} {n i : Nat} {rs : List (List Nat)} (h : Found o n i rs) {x : Nat} (hx : x ∈ rs.flatten) : gat o x ∈ rs.flatten := by
  obtain ⟨r, hr, hx⟩ := List.mem_flatten.mp hx
  obtain ⟨b, R, _⟩ := h.ring r hr
  exact List.mem_flatten.mpr ⟨r, hr, R.step hx⟩
theorem Found.skip {o : List Nat} {n i : Nat} {rs : List (List Nat)} (h : Found o n i rs) (hi : i ∈ rs.flatten) : Found o n (i + 1) rs :=
  ⟨fun r hr => by obtain ⟨b, R, h1, h2⟩ := h.ring r hr; exact ⟨b, R, by omega, h2⟩, h.hds, h.nd, fun x hx => by
    by_cases e : x = i
    · rw [e]; exact hi
    · exact h.all x (by omega)⟩
theorem head_of {o : List Nat} {n b : Nat} {r : List Nat} (h : Path o n b r) : r.headD 0 = b := by
  have := h.hd
  cases r with
  | nil => simp at this
  | cons a r => simpa using this
theorem Found.more {o : List Nat} {n i : Nat} {rs : List (List Nat)} {r : List Nat} (h : Found o n i rs) (hi : i ∉ rs.flatten) (R : Ring o n i r) : Found o n (i + 1) (rs ++ [r]) := by
  have apart : ∀ x ∈ r, x ∉ rs.flatten := fun x hx hm => hi (R.back (S := fun x => x ∈ rs.flatten) (fun x hx => h.step hx) hx hm)
  refine ⟨?_, ?_, ?_, ?_⟩
  · intro r' hr'
    rcases List.mem_append.mp hr' with hr' | hr'
    · obtain ⟨b, R', h1, h2⟩ := h.ring r' hr'; exact ⟨b, R', by omega, h2⟩
    · rw [List.mem_singleton.mp hr']
      refine ⟨i, R, by omega, fun x hx => ?_⟩
      by_cases e : x < i
      · exact absurd (h.all x e) (apart x hx)
      · omega
  · rw [List.map_append, List.pairwise_append]
    refine ⟨h.hds, by simp, fun a ha c hc => ?_⟩
    obtain ⟨r', hr', rfl⟩ := List.mem_map.mp ha
    obtain ⟨b, R', h1, _⟩ := h.ring r' hr'
    rw [head_of R'.toPath]
    simp only [List.map_cons, List.map_nil, List.mem_singleton] at hc
    rw [hc, head_of R.toPath]
    exact h1
  · rw [List.flatten_append, List.nodup_append]
    refine ⟨h.nd, by simpa using R.nd, fun a ha c hc e => ?_⟩
    subst e
    simp at hc
    exact apart a hc ha
  · intro x hx
    rw [List.flatten_append, List.mem_append]
    by_cases e : x = i
    · right
      rw [e]
      simp
      have := R.hd
      exact List.mem_of_getElem? this
    · exact .inl (h.all x (by omega))
theorem Found.perm {o : List Nat} {n : Nat} {rs : List (List Nat)} (h : Found o n n rs) : rs.flatten.Perm (List.range n) :=
  (List.perm_ext_iff_of_nodup h.nd List.nodup_range).mpr fun x => ⟨fun hx => List.mem_range.mpr (h.lt x hx), fun hx => h.all x (List.mem_range.mp hx)⟩
def rowsD (rs : List (List Nat)) : List D := rs.map fun r => PyData.tuple (r.map nt)
theorem p_rows (rs : List (List Nat)) : pureAll (rs.map fun r => PyData.tuple (r.map nt)) = true := p_map fun r _ => by simp
/-- what stands in a dict of met boxes -/
def MetIs (kds : List (Key × D)) (S : Nat → Prop) : Prop := ∀ x : Nat, (valD kds (.inl (x : Int))).isSome = true ↔ S x
theorem valD_put {κ : Type} [DecidableEq κ] (kds : List (κ × D)) (k k' : κ) (d : D) : valD (putD kds k d) k' = if k' = k then some d else valD kds k' := by
  induction kds with
  | nil =>
    by_cases e : k' = k
    · subst e; simp [putD, valD]
    · have : ¬ k = k' := fun z => e z.symm
      simp [putD, valD, e, this]
  | cons p kds ih =>
    by_cases e1 : p.1 = k
    · by_cases e : k' = k
      · subst e; simp [putD, valD, e1]
      · have h2 : ¬ p.1 = k' := fun z => e (z.symm.trans e1)
        have h3 : ¬ k = k' := fun z => e z.symm
        have hm : ∀ l : List (κ × D), ((l.map fun p => if p.1 = k then (p.1, d) else p).find? fun p => decide (p.1 = k')) = l.find? fun p => decide (p.1 = k') := fun l => by
          induction l with
          | nil => rfl
          | cons q l ih2 =>
            by_cases eq : q.1 = k
            · have : ¬ q.1 = k' := fun z => e (z.symm.trans eq)
              simp [eq, h3, ih2, List.find?_cons]
            · by_cases eq2 : q.1 = k'
              · simp [List.find?_cons, eq, eq2, e]
              · simp [List.find?_cons, eq, eq2, ih2]
        have ha : ((p :: kds).any fun p => decide (p.1 = k)) = true := by simp [e1]
        unfold putD valD
        rw [if_pos ha, hm]
        simp [e]
    · have ha : ((p :: kds).any fun p => decide (p.1 = k)) = kds.any fun p => decide (p.1 = k) := by simp [e1]
      have hp : putD (p :: kds) k d = p :: putD kds k d := by
        unfold putD
        rw [ha]
        split
        · simp [e1]
        · rfl
      rw [hp]
      by_cases e2 : p.1 = k'
      · have : ¬ k' = k := fun z => e1 (e2.trans z)
        simp [valD, e2, this]
      · have h1 : valD (p :: putD kds k d) k' = valD (putD kds k d) k' := by simp [valD, List.find?_cons, e2]
        have h2 : valD (p :: kds) k' = valD kds k' := by simp [valD, List.find?_cons, e2]
        rw [h1, h2, ih]
theorem putD_len {κ : Type} [DecidableEq κ] (kds : List (κ × D)) (k : κ) (d : D) : (putD kds k d).length ≤ kds.length + 1 := by
  unfold putD
  split
  · simp
  · simp
theorem MetIs.put {kds : List (Key × D)} {S : Nat → Prop} (h : MetIs kds S) (x : Nat) (d : D) : MetIs (putD kds (.inl (x : Int)) d) fun y => S y ∨ y = x := fun y => by
  rw [valD_put]
  by_cases e : y = x
  · subst e; simp
  · have : ¬ ((Sum.inl (y : Int) : Key) = Sum.inl (x : Int)) := fun z => e (by have := Sum.inl.inj z; omega)
    rw [if_neg this, h y]
    constructor
    · exact .inl
    · rintro (h | h)
      · exact h
      · exact absurd h e

/-! ### rings: what comes ahead; they are told in one way -/
theorem Ring.pred {o : List Nat} {n b : Nat} {r : List Nat} (O : IsOrd o n) (R : Ring o n b r) {x : Nat} (hx : x < n) (h : gat o x ∈ r) : x ∈ r := by
  obtain ⟨i, hi, e⟩ := List.getElem_of_mem h
  cases i with
  | zero =>
    have h0 := R.toPath.zero
    have : gat o x = gat o (r.getLast R.toPath.ne) := by rw [← e, h0, R.cl]
    rw [O.inj hx (R.lt _ (List.getLast_mem _)) this]
    exact List.getLast_mem _
  | succ i =>
    have h1 := R.st i hi
    have : gat o x = gat o r[i] := by rw [← e, h1]
    rw [O.inj hx (R.lt _ (List.getElem_mem _)) this]
    exact List.getElem_mem _
theorem Found.pred {o : List Nat} {n i : Nat} {rs : List (List Nat)} (O : IsOrd o n) (F : Found o n i rs) {x : Nat} (hx : x < n) (h : gat o x ∈ rs.flatten) : x ∈ rs.flatten := by
  obtain ⟨r, hr, h⟩ := List.mem_flatten.mp h
  obtain ⟨b, R, _⟩ := F.ring r hr
  exact List.mem_flatten.mpr ⟨r, hr, R.pred O hx h⟩
/-- a walk that starts apart stays apart -/
theorem Path.apart {o : List Nat} {n b i : Nat} {r : List Nat} {rs : List (List Nat)} (O : IsOrd o n) (F : Found o n i rs) (h : Path o n b r) (hb : b ∉ rs.flatten) : ∀ x ∈ r, x ∉ rs.flatten := by
  have key : ∀ (j : Nat) (hj : j < r.length), r[j] ∉ rs.flatten := by
    intro j
    induction j with
    | zero => intro hj; rw [h.zero]; exact hb
    | succ j ih =>
      intro hj hm
      rw [← h.st j hj] at hm
      exact ih (by omega) (F.pred O (h.lt _ (List.getElem_mem _)) hm)
  intro x hx
  obtain ⟨j, hj, rfl⟩ := List.getElem_of_mem hx
  exact key j hj
theorem Path.close {o : List Nat} {n b : Nat} {r : List Nat} (O : IsOrd o n) (h : Path o n b r) (hm : gat o (r.getLast h.ne) ∈ r) : gat o (r.getLast h.ne) = b := by
  by_cases e : gat o (r.getLast h.ne) = b
  · exact e
  · have := (h.next O e).nd
    rw [List.nodup_append] at this
    exact absurd rfl (this.2.2 _ hm _ (List.mem_singleton.mpr rfl))
theorem Path.at_eq {o : List Nat} {n b : Nat} {r r' : List Nat} (h : Path o n b r) (h' : Path o n b r') : ∀ (j : Nat) (hj : j < r.length) (hj' : j < r'.length), r[j] = r'[j]
  | 0, hj, hj' => by rw [h.zero, h'.zero]
  | j + 1, hj, hj' => by rw [← h.st j hj, ← h'.st j hj', h.at_eq h' j (by omega) (by omega)]
theorem Ring.len_le {o : List Nat} {n b : Nat} {r r' : List Nat} (h : Ring o n b r) (h' : Path o n b r') : r'.length ≤ r.length := by
  rcases Nat.lt_or_ge r.length r'.length with hl | hl
  · have hp := h.toPath.pos
    have h1 := h.cl
    rw [getLast_at] at h1
    have h2 := h'.st (r.length - 1) (by omega)
    rw [← h.toPath.at_eq h' (r.length - 1) (by omega) (by omega), h1] at h2
    have h3 := h'.zero.trans h2
    have := (List.getElem_inj h'.nd).mp h3
    omega
  · exact hl
theorem Ring.unique {o : List Nat} {n b : Nat} {r r' : List Nat} (h : Ring o n b r) (h' : Ring o n b r') : r = r' :=
  List.ext_getElem (Nat.le_antisymm (h'.len_le h.toPath) (h.len_le h'.toPath)) fun j hj hj' => h.toPath.at_eq h'.toPath j hj hj'
theorem Found.heads {o : List Nat} {n i : Nat} {rs : List (List Nat)} (F : Found o n i rs) (b : Nat) : b ∈ rs.map (fun r => r.headD 0) ↔ b < i ∧ ∃ r, Ring o n b r ∧ ∀ x ∈ r, b ≤ x := by
  constructor
  · intro h
    obtain ⟨r, hr, rfl⟩ := List.mem_map.mp h
    obtain ⟨b, R, h1, h2⟩ := F.ring r hr
    rw [head_of R.toPath]
    exact ⟨h1, r, R, h2⟩
  · rintro ⟨hb, r, R, h2⟩
    obtain ⟨r', hr', hx⟩ := List.mem_flatten.mp (F.all b hb)
    obtain ⟨b', R', h3, h4⟩ := F.ring r' hr'
    have h5 : b' ∈ r := R'.back (S := fun x => x ∈ r) (fun x hx => R.step hx) hx (List.mem_of_getElem? R.hd)
    have h6 := h2 b' h5
    have h7 := h4 b hx
    have e : b = b' := by omega
    subst e
    exact List.mem_map.mpr ⟨r', hr', head_of R'.toPath⟩
theorem Found.unique {o : List Nat} {n i : Nat} {rs rs' : List (List Nat)} (F : Found o n i rs) (F' : Found o n i rs') : rs = rs' := by
  have hh : rs.map (fun r => r.headD 0) = rs'.map (fun r => r.headD 0) := by
    refine nat_sorted_eq ((List.perm_ext_iff_of_nodup (F.hds.imp fun h => Nat.ne_of_lt h) (F'.hds.imp fun h => Nat.ne_of_lt h)).mpr fun b => by rw [F.heads, F'.heads]) (F.hds.imp fun h => Nat.le_of_lt h) (F'.hds.imp fun h => Nat.le_of_lt h)
  have hl : rs.length = rs'.length := by have := congrArg List.length hh; simpa using this
  refine List.ext_getElem hl fun j hj hj' => ?_
  obtain ⟨b, R, _⟩ := F.ring rs[j] (List.getElem_mem _)
  obtain ⟨b', R', _⟩ := F'.ring rs'[j] (List.getElem_mem _)
  have e : (rs.map (fun r => r.headD 0))[j]'(by simpa using hj) = (rs'.map (fun r => r.headD 0))[j]'(by simpa using hj') := by simp only [hh]
  simp only [List.getElem_map] at e
  rw [head_of R.toPath, head_of R'.toPath] at e
  subst e
  exact R.unique R'
theorem Found.sum_len {o : List Nat} {n : Nat} {rs : List (List Nat)} (F : Found o n n rs) : (rs.map List.length).sum = n := by
  have := F.perm.length_eq
  rw [List.length_flatten, List.length_range] at this
  exact this
def rowsL (rs : List (List Nat)) : List D := rs.map fun r => PyData.list (r.map nt)

theorem sp_order (c : Int) (m : Nat) (hm : m ≤ 1000) : ∃ o : List Nat, IsOrd o m ∧ fn__law_order [.int c, .int (m : Int)] = .ok (.val (.tuple (o.map nt))) := by
  obtain ⟨E', e, c', o, s, hs, ho, rfl⟩ := for_rng (g := mStore 3) (b := bd__law_order_1) (mi := mRng rng1F (mA1 (mVar 1) mA0)) (E := [.val (.int c), .val (.int (m : Int)), .own (.lst []), .un]) (E1 := [.val (.int c), .val (.int (m : Int)), .own (.lst []), .un]) (n := m)
    (by simp [f_rng1N (show m ≤ 1000000 by omega)])
    (fun i E => ∃ (c : Int) (o : List Nat) (s : Slot), s.free = true ∧ IsOrd o i ∧ E = [.val (.int c), .val (.int (m : Int)), .own (.lst (o.map nt)), s]) ⟨c, [], .un, rfl, List.Perm.refl _, rfl⟩
    (fun i hi E ⟨c, o, s, hs, ho, hE⟩ => by
      subst hE
      have hl := ho.len
      have h1 : 0 ≤ c % ((i : Int) + 1) := Int.emod_nonneg _ (by omega)
      have h2 : c % ((i : Int) + 1) < (i : Int) + 1 := Int.emod_lt_of_pos _ (by omega)
      have hk := divOk (j := (i : Int) + 1) (by omega) (by omega)
      have hins : insF (o.map nt) [.int (c % ((i : Int) + 1)), .int (i : Int)] = some ((o.take (c % ((i : Int) + 1)).toNat ++ [i] ++ o.drop (c % ((i : Int) + 1)).toNat).map nt, .none) := by
        unfold insF
        simp only
        rw [ok_pos ⟨by rw [List.length_map, hl]; unfold big; omega, h1, by omega⟩]
        simp [List.map_take, List.map_drop]
      refine ⟨_, [.val (.int (c / ((i : Int) + 1))), .val (.int (m : Int)), .own (.lst ((o.take (c % ((i : Int) + 1)).toNat ++ [i] ++ o.drop (c % ((i : Int) + 1)).toNat).map nt)), .val (.int (i : Int))], by simp [hs]; rfl, .inl ?_, _, _, _, rfl, ?_, rfl⟩
      · simp [bd__law_order_1, hk, hins, show (0 : Int) < (i : Int) + 1 by omega]
      · show List.Perm _ _
        rw [List.range_succ]
        refine (List.Perm.trans ?_ (List.Perm.append_right [i] ho))
        rw [List.append_assoc]
        refine (List.perm_append_comm.append_left _ |>.trans ?_)
        rw [← List.append_assoc, List.take_append_drop])
  have e' : lp__law_order_1 [.val (.int c), .val (.int (m : Int)), .own (.lst []), .un] = _ := e
  exact ⟨o, ho, by simp [fn__law_order, runDef, m__law_order, lstF, e']⟩

theorem ord_at {o : List Nat} {n x : Nat} (O : IsOrd o n) (hx : x < n) : atI (o.map nt) (x : Int) = some (.int ((gat o x : Nat) : Int)) := by
  have hxo : x < o.length := by rw [O.len]; exact hx
  rw [atI_map, atI_get' hxo, gat_eq hxo]; rfl

/-! ### the need -/
def needOf (rs : List (List Nat)) (k : Nat) : Nat := (rs.map fun r => (r.length - 1) / k).sum

theorem gat_ext {a b : List Nat} {n : Nat} (ha : a.length = n) (hb : b.length = n) (h : ∀ i, i < n → gat a i = gat b i) : a = b :=
  List.ext_getElem (by rw [ha, hb]) fun i h1 h2 => by
    have := h i (by omega)
    rw [gat_eq h1, gat_eq h2] at this
    exact this

/-! ### rings as closed chains; what an exchange does -/
def chn (o : List Nat) : Nat → List Nat → Nat → Prop
  | x, [], y => gat o x = y
  | x, z :: l, y => gat o x = z ∧ chn o z l y
theorem chn_app (o : List Nat) : ∀ (u : List Nat) (x b y : Nat) (v : List Nat), chn o x (u ++ b :: v) y ↔ chn o x u b ∧ chn o b v y
  | [], x, b, y, v => Iff.rfl
  | z :: u, x, b, y, v => by
    show (gat o x = z ∧ chn o z (u ++ b :: v) y) ↔ (gat o x = z ∧ chn o z u b) ∧ chn o b v y
    rw [chn_app o u z b y v]
    exact ⟨fun ⟨a, b, c⟩ => ⟨⟨a, b⟩, c⟩, fun ⟨⟨a, b⟩, c⟩ => ⟨a, b, c⟩⟩
theorem chn_swap {o o' : List Nat} : ∀ {l : List Nat} {x x' y : Nat}, gat o' x' = gat o x → (∀ z ∈ l, gat o' z = gat o z) → chn o x l y → chn o' x' l y
  | [], x, x', y, h, _, hc => h.trans hc
  | z :: l, x, x', y, h, hl, hc => ⟨h.trans hc.1, chn_swap (hl z List.mem_cons_self) (fun w hw => hl w (List.mem_cons_of_mem _ hw)) hc.2⟩
/-- rings that hold each box once -/
structure Cover (o : List Nat) (n : Nat) (rs : List (List Nat)) : Prop where
  ring : ∀ r ∈ rs, ∃ b l, r = b :: l ∧ chn o b l b
  perm : rs.flatten.Perm (List.range n)
theorem Cover.nd {o : List Nat} {n : Nat} {rs : List (List Nat)} (C : Cover o n rs) : rs.flatten.Nodup := C.perm.nodup_iff.mpr List.nodup_range
theorem Cover.lt {o : List Nat} {n : Nat} {rs : List (List Nat)} (C : Cover o n rs) {r : List Nat} (hr : r ∈ rs) : ∀ x ∈ r, x < n := fun x hx =>
  List.mem_range.mp (C.perm.mem_iff.mp (List.mem_flatten.mpr ⟨r, hr, hx⟩))
theorem Cover.cover {o : List Nat} {n : Nat} {rs : List (List Nat)} (C : Cover o n rs) {x : Nat} (hx : x < n) : ∃ r ∈ rs, x ∈ r :=
  List.mem_flatten.mp (C.perm.mem_iff.mpr (List.mem_range.mpr hx))
theorem chn_of {o : List Nat} : ∀ (l : List Nat) (x y : Nat), (∀ (i : Nat) (h : i + 1 < (x :: l).length), gat o (x :: l)[i] = (x :: l)[i + 1]) → gat o ((x :: l).getLast (by simp)) = y → chn o x l y
  | [], x, y, _, h => h
  | z :: l, x, y, hs, h => ⟨hs 0 (by simp), chn_of l z y (fun i hi => hs (i + 1) (by simpa using hi)) (by simpa using h)⟩
theorem chn_to {o : List Nat} : ∀ (l : List Nat) (x y : Nat), chn o x l y → (∀ (i : Nat) (h : i + 1 < (x :: l).length), gat o (x :: l)[i] = (x :: l)[i + 1]) ∧ gat o ((x :: l).getLast (by simp)) = y
  | [], x, y, h => ⟨fun i hi => by simp at hi, h⟩
  | z :: l, x, y, h => by
    obtain ⟨h1, h2⟩ := chn_to l z y h.2
    refine ⟨fun i hi => ?_, by simpa using h2⟩
    cases i with
    | zero => exact h.1
    | succ i => exact h1 i (by simpa using hi)
theorem Ring.chn {o : List Nat} {n b : Nat} {r : List Nat} (R : Ring o n b r) : ∃ l, r = b :: l ∧ chn o b l b := by
  have hp := R.pos
  have h0 := R.zero
  cases r with
  | nil => simp at hp
  | cons a l =>
    have e : a = b := h0
    subst e
    exact ⟨l, rfl, chn_of l a a R.st R.cl⟩
theorem chn_ring {o : List Nat} {n b : Nat} {l : List Nat} (h : chn o b l b) (hn : (b :: l).Nodup) (hl : ∀ x ∈ b :: l, x < n) : Ring o n b (b :: l) := by
  obtain ⟨h1, h2⟩ := chn_to l b b h
  exact { hd := rfl, lt := hl, nd := hn, st := h1, cl := h2 }
theorem Found.toCover {o : List Nat} {n : Nat} {rs : List (List Nat)} (F : Found o n n rs) : Cover o n rs := ⟨fun r hr => by
  obtain ⟨b, R, _⟩ := F.ring r hr
  obtain ⟨l, e, h⟩ := R.chn
  exact ⟨b, l, e, h⟩, F.perm⟩
/-- a ring told from another of its boxes -/
theorem chn_rot {o : List Nat} {b x : Nat} {l : List Nat} (h : chn o b l b) (hx : x ∈ b :: l) : ∃ l', chn o x l' x ∧ (x :: l').Perm (b :: l) := by
  rcases List.mem_cons.mp hx with rfl | hx
  · exact ⟨l, h, .refl _⟩
  · obtain ⟨u, v, rfl⟩ := List.append_of_mem hx
    obtain ⟨h1, h2⟩ := (chn_app o u b x b v).mp h
    refine ⟨v ++ b :: u, (chn_app o v x b x u).mpr ⟨h2, h1⟩, ?_⟩
    show ((x :: v) ++ (b :: u)).Perm ((b :: u) ++ (x :: v))
    exact List.perm_append_comm
/-- the ring of a box brought to the front, told from it on -/
theorem Cover.front {o : List Nat} {n : Nat} {rs : List (List Nat)} (C : Cover o n rs) {x : Nat} (hx : x < n) : ∃ l rest, Cover o n ((x :: l) :: rest) := by
  obtain ⟨r, hr, hxr⟩ := C.cover hx
  obtain ⟨p, q, rfl⟩ := List.append_of_mem hr
  obtain ⟨b, l, rfl, hc⟩ := C.ring r hr
  obtain ⟨l', hc', hp⟩ := chn_rot hc hxr
  refine ⟨l', p ++ q, ⟨fun r' hr' => ?_, ?_⟩⟩
  · rcases List.mem_cons.mp hr' with rfl | hr'
    · exact ⟨x, l', rfl, hc'⟩
    · exact C.ring r' (by rcases List.mem_append.mp hr' with h | h <;> simp [h])
  · refine List.Perm.trans ?_ C.perm
    rw [List.flatten_cons, List.flatten_append, List.flatten_append, List.flatten_cons, ← List.append_assoc, ← List.append_assoc]
    exact ((hp.append_right p.flatten).trans List.perm_append_comm).append_right q.flatten
theorem Cover.tail {o : List Nat} {n : Nat} {rs : List (List Nat)} (C : Cover o n rs) : ∀ {x : Nat} {l : List Nat} {rest : List (List Nat)}, rs = (x :: l) :: rest → ∀ {y : Nat}, y < n → y ∉ x :: l → ∃ l2 rest2, Cover o n ((x :: l) :: (y :: l2) :: rest2) := by
  rintro x l rest rfl y hy hn
  obtain ⟨r, hr, hyr⟩ := C.cover hy
  rcases List.mem_cons.mp hr with rfl | hr
  · exact absurd hyr hn
  obtain ⟨p, q, rfl⟩ := List.append_of_mem hr
  obtain ⟨b, l1, rfl, hc⟩ := C.ring r (List.mem_cons_of_mem _ hr)
  obtain ⟨l', hc', hp⟩ := chn_rot hc hyr
  refine ⟨l', p ++ q, ⟨fun r' hr' => ?_, ?_⟩⟩
  · rcases List.mem_cons.mp hr' with rfl | hr'
    · exact C.ring _ List.mem_cons_self
    · rcases List.mem_cons.mp hr' with rfl | hr'
      · exact ⟨y, l', rfl, hc'⟩
      · exact C.ring r' (by rcases List.mem_append.mp hr' with h | h <;> simp [h])
  · refine List.Perm.trans ?_ C.perm
    rw [List.flatten_cons, List.flatten_cons, List.flatten_cons, List.flatten_append, List.flatten_append, List.flatten_cons]
    refine List.Perm.append_left _ ?_
    rw [← List.append_assoc, ← List.append_assoc]
    exact ((hp.append_right p.flatten).trans List.perm_append_comm).append_right q.flatten
/-- the names in two boxes changed about -/
def exch (o : List Nat) (a b : Nat) : List Nat := (o.set a (gat o b)).set b (gat o a)
theorem gat_set {o : List Nat} {i x y : Nat} (hi : i < o.length) : gat (o.set i x) y = if y = i then x else gat o y := by
  unfold gat
  rw [List.getD_eq_getElem?_getD, List.getElem?_set, List.getD_eq_getElem?_getD]
  by_cases h : i = y
  · subst h; simp [hi]
  · rw [if_neg h, if_neg fun e => h e.symm]
theorem gat_exch {o : List Nat} {n a b x : Nat} (O : IsOrd o n) (ha : a < n) (hb : b < n) : gat (exch o a b) x = if x = b then gat o a else if x = a then gat o b else gat o x := by
  unfold exch
  rw [gat_set (by rw [List.length_set, O.len]; exact hb), gat_set (by rw [O.len]; exact ha)]
theorem exch_len (o : List Nat) (a b : Nat) : (exch o a b).length = o.length := by simp [exch]
theorem ord_of_inj {o : List Nat} {n : Nat} (hl : o.length = n) (hlt : ∀ i, i < n → gat o i < n) (hi : ∀ i j, i < n → j < n → gat o i = gat o j → i = j) : IsOrd o n := by
  have hnd : o.Nodup := List.pairwise_iff_getElem.mpr fun i j h1 h2 hij e => by
    have := hi i j (by omega) (by omega) (by rw [gat_eq h1, gat_eq h2, e])
    omega
  have hm : ∀ x ∈ o, x < n := fun x hx => by
    obtain ⟨i, h1, rfl⟩ := List.getElem_of_mem hx
    have := hlt i (by omega)
    rwa [gat_eq h1] at this
  refine (List.perm_ext_iff_of_nodup hnd List.nodup_range).mpr fun x => ⟨fun hx => List.mem_range.mpr (hm x hx), fun hx => ?_⟩
  by_cases h : x ∈ o
  · exact h
  · have := nodup_len (r := x :: o) (n := n) (List.nodup_cons.mpr ⟨h, hnd⟩) fun y hy => by
      rcases List.mem_cons.mp hy with rfl | hy
      · exact List.mem_range.mp hx
      · exact hm y hy
    rw [List.length_cons] at this
    omega
def sw (a b x : Nat) : Nat := if x = b then a else if x = a then b else x
theorem gat_sw {o : List Nat} {n a b x : Nat} (O : IsOrd o n) (ha : a < n) (hb : b < n) : gat (exch o a b) x = gat o (sw a b x) := by
  rw [gat_exch O ha hb]
  unfold sw
  split
  · rfl
  · split <;> rfl
theorem sw_lt {n a b x : Nat} (ha : a < n) (hb : b < n) (hx : x < n) : sw a b x < n := by
  unfold sw
  split
  · exact ha
  · split <;> assumption
theorem sw_inj {a b x y : Nat} (h : sw a b x = sw a b y) : x = y := by
  unfold sw at h
  split at h <;> split at h <;> (try split at h) <;> (try split at h) <;> omega
theorem exch_ord {o : List Nat} {n a b : Nat} (O : IsOrd o n) (ha : a < n) (hb : b < n) : IsOrd (exch o a b) n :=
  ord_of_inj (by rw [exch_len, O.len]) (fun i hi => by rw [gat_sw O ha hb]; exact O.lt (sw_lt ha hb hi)) fun i j hi hj e => by
    rw [gat_sw O ha hb, gat_sw O ha hb] at e
    exact sw_inj (O.inj (sw_lt ha hb hi) (sw_lt ha hb hj) e)
theorem exch_comm (o : List Nat) (a b : Nat) : exch o a b = exch o b a := by
  unfold exch
  by_cases h : a = b
  · subst h; rfl
  · exact List.set_comm _ _ h
/-! one ring falls in two, or two become one -/
theorem cover_split {o : List Nat} {n a b : Nat} {u v : List Nat} {rest : List (List Nat)} (O : IsOrd o n) (C : Cover o n ((a :: (u ++ b :: v)) :: rest)) : Cover (exch o a b) n ((a :: v) :: (b :: u) :: rest) := by
  have ha : a < n := C.lt List.mem_cons_self a List.mem_cons_self
  have hb : b < n := C.lt List.mem_cons_self b (by simp)
  obtain ⟨b', l, e, hc⟩ := C.ring _ List.mem_cons_self
  cases e
  obtain ⟨h1, h2⟩ := (chn_app o u a b a v).mp hc
  have hnd := C.nd
  rw [List.flatten_cons, List.nodup_append] at hnd
  obtain ⟨n1, n2, n3⟩ := hnd
  have same : ∀ z, z ≠ a → z ≠ b → gat (exch o a b) z = gat o z := fun z hza hzb => by rw [gat_exch O ha hb, if_neg hzb, if_neg hza]
  have hna : ∀ z ∈ u ++ b :: v, z ≠ a := fun z hz e => (List.nodup_cons.mp n1).1 (e ▸ hz)
  have hnb : (∀ z ∈ u, z ≠ b) ∧ ∀ z ∈ v, z ≠ b := by
    have := (List.nodup_append.mp (List.nodup_cons.mp n1).2)
    exact ⟨fun z hz e => this.2.2 z hz b List.mem_cons_self e, fun z hz e => (List.nodup_cons.mp this.2.1).1 (e ▸ hz)⟩
  have hab : b ≠ a := hna b (by simp)
  refine ⟨fun r hr => ?_, ?_⟩
  · rcases List.mem_cons.mp hr with rfl | hr
    · refine ⟨a, v, rfl, chn_swap (x := b) ?_ (fun z hz => same z (hna z (by simp [hz])) (hnb.2 z hz)) h2⟩
      rw [gat_exch O ha hb, if_neg (Ne.symm hab), if_pos rfl]
    · rcases List.mem_cons.mp hr with rfl | hr
      · refine ⟨b, u, rfl, chn_swap (x := a) ?_ (fun z hz => same z (hna z (by simp [hz])) (hnb.1 z hz)) h1⟩
        rw [gat_exch O ha hb, if_pos rfl]
      · obtain ⟨c, l, rfl, hc'⟩ := C.ring r (List.mem_cons_of_mem _ hr)
        have hz : ∀ z ∈ c :: l, z ≠ a ∧ z ≠ b := fun z hz => ⟨fun e => n3 a (by simp) z (List.mem_flatten.mpr ⟨_, hr, hz⟩) e.symm, fun e => n3 b (by simp) z (List.mem_flatten.mpr ⟨_, hr, hz⟩) e.symm⟩
        refine ⟨c, l, rfl, chn_swap ?_ (fun z h => ?_) hc'⟩
        · exact same c (hz c (by simp)).1 (hz c (by simp)).2
        · exact same z (hz z (by simp [h])).1 (hz z (by simp [h])).2
  · refine List.Perm.trans ?_ C.perm
    rw [List.flatten_cons, List.flatten_cons, List.flatten_cons, ← List.append_assoc]
    refine List.Perm.append_right _ ?_
    show (a :: (v ++ (b :: u))).Perm (a :: (u ++ (b :: v)))
    refine List.Perm.cons a ?_
    exact (List.perm_middle.trans (List.Perm.cons b List.perm_append_comm)).trans List.perm_middle.symm
theorem cover_merge {o : List Nat} {n a b : Nat} {u v : List Nat} {rest : List (List Nat)} (O : IsOrd o n) (C : Cover o n ((a :: v) :: (b :: u) :: rest)) : Cover (exch o a b) n ((a :: (u ++ b :: v)) :: rest) := by
  have ha : a < n := C.lt List.mem_cons_self a List.mem_cons_self
  have hb : b < n := C.lt (List.mem_cons_of_mem _ List.mem_cons_self) b List.mem_cons_self
  obtain ⟨_, _, e, h2⟩ := C.ring _ List.mem_cons_self
  cases e
  obtain ⟨_, _, e, h1⟩ := C.ring _ (List.mem_cons_of_mem _ List.mem_cons_self)
  cases e
  have hnd := C.nd
  rw [List.flatten_cons, List.flatten_cons, List.nodup_append, List.nodup_append] at hnd
  obtain ⟨n1, ⟨n4, n5, n6⟩, n3⟩ := hnd
  have same : ∀ z, z ≠ a → z ≠ b → gat (exch o a b) z = gat o z := fun z hza hzb => by rw [gat_exch O ha hb, if_neg hzb, if_neg hza]
  have hab : a ≠ b := n3 a (by simp) b (by simp)
  refine ⟨fun r hr => ?_, ?_⟩
  · rcases List.mem_cons.mp hr with rfl | hr
    · refine ⟨a, u ++ b :: v, rfl, (chn_app _ u a b a v).mpr ⟨chn_swap (x := b) ?_ (fun z hz => same z (fun e => n3 a (by simp) z (by simp [hz]) e.symm) fun e => (List.nodup_cons.mp n4).1 (e ▸ hz)) h1, chn_swap (x := a) ?_ (fun z hz => same z (fun e => (List.nodup_cons.mp n1).1 (e ▸ hz)) fun e => n3 z (by simp [hz]) b (by simp) e) h2⟩⟩
      · rw [gat_exch O ha hb, if_neg hab, if_pos rfl]
      · rw [gat_exch O ha hb, if_pos rfl]
    · obtain ⟨c, l, rfl, hc'⟩ := C.ring r (List.mem_cons_of_mem _ (List.mem_cons_of_mem _ hr))
      have hz : ∀ z ∈ c :: l, z ≠ a ∧ z ≠ b := fun z hz => ⟨fun e => n3 a (by simp) z (List.mem_append.mpr (.inr (List.mem_flatten.mpr ⟨_, hr, hz⟩))) e.symm, fun e => n6 b (by simp) z (List.mem_flatten.mpr ⟨_, hr, hz⟩) e.symm⟩
      refine ⟨c, l, rfl, chn_swap ?_ (fun z h => ?_) hc'⟩
      · exact same c (hz c (by simp)).1 (hz c (by simp)).2
      · exact same z (hz z (by simp [h])).1 (hz z (by simp [h])).2
  · refine List.Perm.trans ?_ C.perm
    rw [List.flatten_cons, List.flatten_cons, List.flatten_cons, ← List.append_assoc]
    refine List.Perm.append_right _ ?_
    show (a :: (u ++ (b :: v))).Perm (a :: (v ++ (b :: u)))
    refine List.Perm.cons a ?_
    exact (List.perm_middle.trans (List.Perm.cons b List.perm_append_comm)).trans List.perm_middle.symm
/-- what an exchange of two boxes does -/
theorem exch_cover {o : List Nat} {n a b : Nat} {rs : List (List Nat)} (O : IsOrd o n) (C : Cover o n rs) (ha : a < n) (hb : b < n) (hab : a ≠ b) :
    ∃ u v rest, (Cover o n ((a :: (u ++ b :: v)) :: rest) ∧ Cover (exch o a b) n ((a :: v) :: (b :: u) :: rest)) ∨ (Cover o n ((a :: v) :: (b :: u) :: rest) ∧ Cover (exch o a b) n ((a :: (u ++ b :: v)) :: rest)) := by
  obtain ⟨l, rest, C1⟩ := C.front ha
  by_cases h : b ∈ a :: l
  · have hbl : b ∈ l := by
      rcases List.mem_cons.mp h with e | h
      · exact absurd e.symm hab
      · exact h
    obtain ⟨u, v, rfl⟩ := List.append_of_mem hbl
    exact ⟨u, v, rest, .inl ⟨C1, cover_split O C1⟩⟩
  · obtain ⟨u, rest2, C2⟩ := C1.tail rfl hb h
    exact ⟨u, l, rest2, .inr ⟨C2, cover_merge O C2⟩⟩

/-! ### all covers of an order tell the same lengths -/
def fct : Nat → Nat
  | 0 => 1
  | n + 1 => (n + 1) * fct n
theorem fct_pos : ∀ n, 0 < fct n
  | 0 => Nat.one_pos
  | n + 1 => Nat.mul_pos (Nat.succ_pos n) (fct_pos n)
theorem fct_dvd : ∀ {n L : Nat}, 1 ≤ L → L ≤ n → L ∣ fct n
  | 0, L, h1, h2 => by omega
  | n + 1, L, h1, h2 => by
    by_cases e : L = n + 1
    · rw [e]; exact Nat.dvd_mul_right _ _
    · exact Nat.dvd_mul_left_of_dvd (fct_dvd h1 (by omega)) _
theorem flat_nd : ∀ {rs : List (List Nat)}, rs.flatten.Nodup → ∀ r ∈ rs, r.Nodup
  | r0 :: rs, h, r, hr => by
    rw [List.flatten_cons, List.nodup_append] at h
    rcases List.mem_cons.mp hr with rfl | hr
    · exact h.1
    · exact flat_nd h.2.1 r hr
/-- the boxes of the ring of x -/
def lf (rs : List (List Nat)) (x : Nat) : Nat := ((rs.find? fun r => decide (x ∈ r)).map List.length).getD 0
theorem lf_in {rs : List (List Nat)} (hn : rs.flatten.Nodup) : ∀ {r : List Nat} {x : Nat}, r ∈ rs → x ∈ r → lf rs x = r.length := by
  induction rs with
  | nil => intro r x h; simp at h
  | cons r0 rs ih =>
    intro r x hr hx
    rw [List.flatten_cons, List.nodup_append] at hn
    unfold lf
    rw [List.find?_cons]
    by_cases h : x ∈ r0
    · rw [decide_eq_true h]
      rcases List.mem_cons.mp hr with rfl | hr
      · rfl
      · exact absurd rfl (hn.2.2 x h x (List.mem_flatten.mpr ⟨r, hr, hx⟩))
    · rw [decide_eq_false h]
      rcases List.mem_cons.mp hr with rfl | hr
      · exact absurd hx h
      · exact ih hn.2.1 hr hx
theorem Cover.lf_eq {o : List Nat} {n : Nat} {rs rs' : List (List Nat)} (C : Cover o n rs) (C' : Cover o n rs') {x : Nat} (hx : x < n) : lf rs x = lf rs' x := by
  have key : ∀ {rs : List (List Nat)}, Cover o n rs → ∃ r, lf rs x = r.length ∧ Ring o n x r := fun {rs} C => by
    obtain ⟨r, hr, hxr⟩ := C.cover hx
    obtain ⟨b, l, rfl, hc⟩ := C.ring r hr
    obtain ⟨l', hc', hp⟩ := chn_rot hc hxr
    have hnd : (b :: l).Nodup := flat_nd C.nd _ hr
    refine ⟨x :: l', ?_, chn_ring hc' (hp.nodup_iff.mpr hnd) fun y hy => C.lt hr y (hp.mem_iff.mp hy)⟩
    rw [lf_in C.nd hr hxr, hp.length_eq]
  obtain ⟨r, e1, R⟩ := key C
  obtain ⟨r', e2, R'⟩ := key C'
  rw [e1, e2, R.unique R']
theorem sum_const {α : Type} (c : Nat) : ∀ l : List α, (l.map fun _ => c).sum = l.length * c
  | [] => by simp
  | a :: l => by rw [List.map_cons, List.sum_cons, sum_const c l, List.length_cons, Nat.add_mul]; omega
theorem sum_flat (g : Nat → Nat) (h : Nat → Nat) : ∀ {rs : List (List Nat)}, (∀ r ∈ rs, ∀ x ∈ r, h x = r.length) → (rs.flatten.map fun x => g (h x)).sum = (rs.map fun r => r.length * g r.length).sum
  | [], _ => rfl
  | r :: rs, hh => by
    rw [List.flatten_cons, List.map_append, List.sum_append, List.map_cons, List.sum_cons, sum_flat g h fun r hr => hh r (List.mem_cons_of_mem _ hr)]
    congr 1
    rw [List.map_congr_left (g := fun _ => g r.length) fun x hx => by rw [hh r List.mem_cons_self x hx], sum_const]
theorem sum_mulL (c : Nat) {α : Type} (f : α → Nat) : ∀ l : List α, (l.map fun x => f x * c).sum = (l.map f).sum * c
  | [] => by simp
  | a :: l => by rw [List.map_cons, List.sum_cons, sum_mulL c f l, List.map_cons, List.sum_cons, Nat.add_mul]
theorem Cover.sum {o : List Nat} {n : Nat} {rs : List (List Nat)} (C : Cover o n rs) (f : Nat → Nat) (h : Nat → Nat) (hh : ∀ x, x < n → h x = lf rs x) : (rs.map fun r => f r.length).sum * fct n = ((List.range n).map fun x => f (h x) * (fct n / h x)).sum := by
  have h1 : ((List.range n).map fun x => f (h x) * (fct n / h x)).sum = (rs.flatten.map fun x => f (lf rs x) * (fct n / lf rs x)).sum := by
    rw [List.map_congr_left (g := fun x => f (lf rs x) * (fct n / lf rs x)) fun x hx => by rw [hh x (List.mem_range.mp hx)]]
    exact ((C.perm.map fun x => f (lf rs x) * (fct n / lf rs x)).sum_nat).symm
  rw [h1, sum_flat (fun L => f L * (fct n / L)) (lf rs) fun r hr x hx => lf_in C.nd hr hx, ← sum_mulL]
  refine congrArg _ (List.map_congr_left fun r hr => ?_)
  obtain ⟨b, l, rfl, _⟩ := C.ring r hr
  have hnd : (b :: l).Nodup := flat_nd C.nd _ hr
  have hle : (b :: l).length ≤ n := nodup_len hnd (C.lt hr)
  have hd := Nat.mul_div_cancel' (fct_dvd (n := n) (L := (b :: l).length) (by simp) hle)
  rw [← Nat.mul_assoc, Nat.mul_comm (b :: l).length, Nat.mul_assoc, hd]
theorem Cover.same {o : List Nat} {n : Nat} {rs rs' : List (List Nat)} (C : Cover o n rs) (C' : Cover o n rs') (f : Nat → Nat) : (rs.map fun r => f r.length).sum = (rs'.map fun r => f r.length).sum := by
  have h1 := C.sum f (lf rs) fun _ _ => rfl
  have h2 := C'.sum f (lf rs) fun x hx => C.lf_eq C' hx
  exact Nat.eq_of_mul_eq_mul_right (fct_pos n) (h1.trans h2.symm)

/-! ### the need of an order -/
open Classical in
noncomputable def ndo (o : List Nat) (n k : Nat) : Nat := if h : ∃ rs, Cover o n rs then needOf (Classical.choose h) k else 0
open Classical in
theorem ndo_eq {o : List Nat} {n : Nat} {rs : List (List Nat)} (C : Cover o n rs) (k : Nat) : ndo o n k = needOf rs k := by
  have h : ∃ rs, Cover o n rs := ⟨rs, C⟩
  unfold ndo
  rw [dif_pos h]
  exact (Classical.choose_spec h).same C fun L => (L - 1) / k
theorem need2 {k u v : Nat} (hk : 0 < k) : v / k + u / k ≤ (u + v + 1) / k ∧ (u + v + 1) / k ≤ v / k + u / k + 1 := by
  constructor
  · rw [Nat.le_div_iff_mul_le hk, Nat.add_mul]
    have h1 := Nat.div_mul_le_self u k
    have h2 := Nat.div_mul_le_self v k
    omega
  · refine Nat.le_of_lt_succ ((Nat.div_lt_iff_lt_mul hk).mpr ?_)
    have h1 := Nat.lt_div_mul_add hk (a := u)
    have h2 := Nat.lt_div_mul_add hk (a := v)
    show u + v + 1 < (v / k + u / k + 2) * k
    rw [Nat.add_mul, Nat.add_mul]
    omega
theorem need_split {k a b : Nat} (hk : 0 < k) (u v : List Nat) (rest : List (List Nat)) : needOf ((a :: v) :: (b :: u) :: rest) k ≤ needOf ((a :: (u ++ b :: v)) :: rest) k ∧ needOf ((a :: (u ++ b :: v)) :: rest) k ≤ needOf ((a :: v) :: (b :: u) :: rest) k + 1 := by
  have e1 : needOf ((a :: v) :: (b :: u) :: rest) k = v.length / k + (u.length / k + needOf rest k) := rfl
  have e2 : needOf ((a :: (u ++ b :: v)) :: rest) k = (u.length + v.length + 1) / k + needOf rest k := by
    show ((a :: (u ++ b :: v)).length - 1) / k + needOf rest k = _
    simp [Nat.add_assoc]
  obtain ⟨h1, h2⟩ := need2 (u := u.length) (v := v.length) hk
  rw [e1, e2]
  omega
/-- an exchange changes the need by no more than one -/
theorem ndo_exch {o : List Nat} {n k a b : Nat} {rs : List (List Nat)} (O : IsOrd o n) (C : Cover o n rs) (hk : 0 < k) (ha : a < n) (hb : b < n) (hab : a ≠ b) : ndo (exch o a b) n k ≤ ndo o n k + 1 ∧ ndo o n k ≤ ndo (exch o a b) n k + 1 := by
  obtain ⟨u, v, rest, ⟨C1, C2⟩ | ⟨C1, C2⟩⟩ := exch_cover O C ha hb hab
  · rw [ndo_eq C1, ndo_eq C2]
    have := need_split (a := a) (b := b) hk u v rest
    omega
  · rw [ndo_eq C1, ndo_eq C2]
    have := need_split (a := a) (b := b) hk u v rest
    omega

theorem memD_nt (b : Nat) : ∀ l : List Nat, memD (.int (b : Int)) (l.map nt) = decide (b ∈ l)
  | [] => rfl
  | a :: l => by
    have ih := memD_nt b l
    unfold memD at ih ⊢
    rw [List.map_cons, List.any_cons, ih]
    show (((a : Int) == (b : Int)) || decide (b ∈ l)) = _
    by_cases h : a = b
    · subst h; simp
    · have : ¬ (a : Int) = (b : Int) := by omega
      have h' : ¬ b = a := fun z => h z.symm
      simp [this, h']
theorem flat_nt (l : List Nat) : (l.map nt).all flatD = true := List.all_eq_true.mpr fun x hx => by obtain ⟨a, _, rfl⟩ := List.mem_map.mp hx; rfl

theorem f_inN (b : Nat) (l : List Nat) : inF (.int (b : Int)) (.list (l.map nt)) = some (.val (.bool (decide (b ∈ l)))) := by
  unfold inF
  simp only
  rw [ok_pos ⟨rfl, flat_nt l⟩, memD_nt]

theorem flat_take {rs : List (List Nat)} {i : Nat} (hi : i < rs.length) : (rs.take (i + 1)).flatten = (rs.take i).flatten ++ rs[i] := by
  rw [List.take_succ, List.getElem?_eq_getElem hi, Option.toList_some, List.flatten_append]; simp
theorem flat_apart {rs : List (List Nat)} (hn : rs.flatten.Nodup) {i : Nat} (hi : i < rs.length) {x : Nat} (hx : x ∈ rs[i]) : x ∉ (rs.take i).flatten := fun hm => by
  have h1 : ((rs.take (i + 1)).flatten ++ (rs.drop (i + 1)).flatten).Nodup := by rw [← List.flatten_append, List.take_append_drop]; exact hn
  have h2 := (List.nodup_append.mp h1).1
  rw [flat_take hi] at h2
  exact (List.nodup_append.mp h2).2.2 x hm x hx rfl

theorem f_ninN (b : Nat) (l : List Nat) : ninF (.int (b : Int)) (.list (l.map nt)) = some (.val (.bool (!decide (b ∈ l)))) := by
  unfold ninF
  simp only
  rw [ok_pos ⟨rfl, flat_nt l⟩, memD_nt]
theorem Found.len_le {o : List Nat} {n i : Nat} {rs : List (List Nat)} (F : Found o n i rs) : rs.length ≤ i := by
  have h1 : rs.length = (rs.map fun r => r.headD 0).length := by simp
  have h2 : (rs.map fun r => r.headD 0).Nodup := F.hds.imp fun h => Nat.ne_of_lt h
  have h3 := nodup_len (n := i) h2 fun x hx => ((F.heads x).mp hx).1
  omega
theorem sp_law_rings {o : List Nat} {n : Nat} (O : IsOrd o n) (hn : n ≤ 1000) : ∃ rs, Found o n n rs ∧ fn__law_rings [.tuple (o.map nt)] = .ok (.own (.lst (rowsD rs))) := by
  have hol := O.len
  obtain ⟨E', e, rs, s3, s4, h3, h4, hF, rfl⟩ := for_rng (g := mStore 3) (b := bd__law_rings_2) (mi := mRng rng1F (mA1 (mN lenF (mA1 (mVar 0) mA0)) mA0)) (E := [.val (.tuple (o.map nt)), .own (.lst []), .own (.lst []), .un, .un])
    (E1 := [.val (.tuple (o.map nt)), .own (.lst []), .own (.lst []), .un, .un]) (n := n)
    (by simp [hol, f_rng1N (show n ≤ 1000000 by omega)])
    (fun i E => ∃ (rs : List (List Nat)) (s3 s4 : MP.Slot), s3.free = true ∧ s4.free = true ∧ Found o n i rs ∧ E = [.val (.tuple (o.map nt)), .own (.lst (rowsD rs)), .own (.lst (rs.flatten.map nt)), s3, s4]) ⟨[], .un, .un, rfl, rfl, Found.start, rfl⟩
    (fun i hi E ⟨rs, s3, s4, h3, h4, hF, hE⟩ => by
      subst hE
      have hnin := f_ninN i rs.flatten
      -- the ring from i on
      have key := while_run (c := mBl (m2 neF (m2 ixF (mVar 0) (m2 ixF (mVar 4) (m1 negF (mD (.int 1))))) (mVar 3))) (b := bd__law_rings_1)
        (I := fun E => ∃ (r : List Nat) (B : List D), Path o n i r ∧ B = rs.flatten.map nt ∧ E = [.val (.tuple (o.map nt)), .own (.lst (rowsD rs)), .own (.lst B), .val (.int (i : Int)), .own (.lst (r.map nt))])
        (P := fun X => ∃ (r : List Nat) (B : List D), Ring o n i r ∧ B = rs.flatten.map nt ∧ X = .ok .nx [.val (.tuple (o.map nt)), .own (.lst (rowsD rs)), .own (.lst B), .val (.int (i : Int)), .own (.lst (r.map nt))])
        (μ := fun E => match E with
          | [_, _, _, _, .own (.lst ds)] => n - ds.length
          | _ => 0)
        (fun E ⟨r, B, hr, hB, hE⟩ => by
          subst hE
          have hl := hr.len
          have hlast : atI (r.map nt) (-1) = some (.int ((r.getLast hr.ne : Nat) : Int)) := by rw [atI_map, atI_last' hr.ne]; rfl
          have hlt : r.getLast hr.ne < o.length := by rw [hol]; exact hr.lt _ (List.getLast_mem _)
          have hg : atI (o.map nt) ((r.getLast hr.ne : Nat) : Int) = some (.int ((gat o (r.getLast hr.ne) : Nat) : Int)) := by rw [atI_map, atI_get' hlt, gat_eq hlt]; rfl
          by_cases hc : gat o (r.getLast hr.ne) = i
          · refine .inl ⟨[.val (.tuple (o.map nt)), .own (.lst (rowsD rs)), .own (.lst B), .val (.int (i : Int)), .own (.lst (r.map nt))], ?_, r, B, ⟨hr, hc⟩, hB, rfl⟩
            simp [hlast, hg, hc]
          · have hne : ¬ ((gat o (r.getLast hr.ne) : Nat) : Int) = (i : Int) := by omega
            refine .inr ⟨[.val (.tuple (o.map nt)), .own (.lst (rowsD rs)), .own (.lst B), .val (.int (i : Int)), .own (.lst (r.map nt))], by simp [hlast, hg, hne], .inl ⟨[.val (.tuple (o.map nt)), .own (.lst (rowsD rs)), .own (.lst B), .val (.int (i : Int)), .own (.lst ((r ++ [gat o (r.getLast hr.ne)]).map nt))], .inl ?_, ⟨_, B, hr.next O hc, hB, rfl⟩, ?_⟩⟩
            · have happ : appF (r.map nt) [.int ((gat o (r.getLast hr.ne) : Nat) : Int)] = some ((r ++ [gat o (r.getLast hr.ne)]).map nt, .none) := by
                unfold appF
                simp only
                rw [ok_pos (by rw [List.length_map]; unfold big; omega)]
                simp
              simp [bd__law_rings_1, hlast, hg, happ]
            · have := (hr.next O hc).len
              rw [List.length_append, List.length_singleton] at this
              simp
              omega)
        (by rintro ⟨r, B, _, _, h⟩; cases h) (E := [.val (.tuple (o.map nt)), .own (.lst (rowsD rs)), .own (.lst (rs.flatten.map nt)), .val (.int (i : Int)), .own (.lst ([i].map nt))]) ⟨[i], _, Path.start hi, rfl, rfl⟩
      obtain ⟨r, B', R, hB', e⟩ := key
      have e' : lp__law_rings_1 [.val (.tuple (o.map nt)), .own (.lst (rowsD rs)), .own (.lst (rs.flatten.map nt)), .val (.int (i : Int)), .own (.lst [.int (i : Int)])] = _ := e
      rw [hB'] at e'
      have hfl : (rs.flatten).length ≤ n := nodup_len hF.nd hF.lt
      have hrl := R.toPath.len
      have hrs := hF.len_le
      have hext : extF (rs.flatten.map nt) [.list (r.map nt)] = some ((rs ++ [r]).flatten.map nt, .none) := by
        have e : (rs ++ [r]).flatten = rs.flatten ++ r := by rw [List.flatten_append]; simp
        unfold extF
        simp only
        rw [ok_pos (by rw [List.length_map, List.length_map]; unfold big; omega), e, List.map_append]
      have happ : appF (rowsD rs) [.tuple (r.map nt)] = some (rowsD (rs ++ [r]), .none) := by
        unfold appF
        simp only
        rw [ok_pos (by unfold rowsD; rw [List.length_map]; unfold big; omega)]
        simp [rowsD]
      by_cases hm : i ∈ rs.flatten
      · rw [decide_eq_true hm] at hnin
        have hs := hF.skip hm
        refine ⟨[.val (.tuple (o.map nt)), .own (.lst (rowsD rs)), .own (.lst (rs.flatten.map nt)), .val (.int (i : Int)), s4], [.val (.tuple (o.map nt)), .own (.lst (rowsD rs)), .own (.lst (rs.flatten.map nt)), .val (.int (i : Int)), s4], by simp [h3], .inl ?_, rs, _, _, rfl, h4, hs, rfl⟩
        generalize rs.flatten.map nt = B at hnin ⊢
        simp [bd__law_rings_2, hnin]
      · rw [decide_eq_false hm] at hnin
        have hs := hF.more hm R
        refine ⟨[.val (.tuple (o.map nt)), .own (.lst (rowsD rs)), .own (.lst (rs.flatten.map nt)), .val (.int (i : Int)), s4], [.val (.tuple (o.map nt)), .own (.lst (rowsD (rs ++ [r]))), .own (.lst ((rs ++ [r]).flatten.map nt)), .val (.int (i : Int)), .own (.lst (r.map nt))], by simp [h3], .inl ?_, rs ++ [r], _, _, rfl, rfl, hs, rfl⟩
        generalize (rs ++ [r]).flatten.map nt = B2 at hext ⊢
        generalize rs.flatten.map nt = B at hnin hext e' ⊢
        simp [bd__law_rings_2, hnin, h4, lstF, e', hext, happ])
  have e' : lp__law_rings_2 [.val (.tuple (o.map nt)), .own (.lst []), .own (.lst []), .un, .un] = _ := e
  exact ⟨rs, hF, by simp [fn__law_rings, runDef, m__law_rings, lstF, e', -List.map_flatten]⟩

/-! ### whole numbers from nought on -/
def rngI (n : Nat) : List Int := (List.range n).map fun n : Nat => (n : Int)
theorem toI (op : List Nat) : op.map nt = (op.map fun n : Nat => (n : Int)).map PyData.int := by rw [List.map_map]; rfl
theorem mem_rngI {x : Int} {n : Nat} : x ∈ rngI n ↔ 0 ≤ x ∧ x < (n : Int) := by
  unfold rngI
  rw [List.mem_map]
  constructor
  · rintro ⟨y, hy, rfl⟩
    have := List.mem_range.mp hy
    omega
  · rintro ⟨h1, h2⟩
    exact ⟨x.toNat, List.mem_range.mpr (by omega), by omega⟩
theorem rngI_len (n : Nat) : (rngI n).length = n := by simp [rngI]
theorem rngI_nodup (n : Nat) : (rngI n).Nodup := by
  unfold rngI List.Nodup
  rw [List.pairwise_map]
  exact (List.nodup_range (n := n)).imp fun h z => h (by omega)
theorem rngI_sorted (n : Nat) : (rngI n).Pairwise (· ≤ ·) := by
  unfold rngI
  rw [List.pairwise_map]
  exact (range_sorted n).imp fun h => by omega

/-! ### orders by whole numbers -/
def seqD (b : Bool) (ds : List D) : D := if b then .list ds else .tuple ds
theorem sq_len (b : Bool) (ds : List D) : lenF [seqD b ds] = some (.val (.int (ds.length : Int))) := by cases b <;> simp [seqD]
theorem sq_tup (b : Bool) (ds : List D) : tupleF [seqD b ds] = some (.val (.tuple ds)) := by cases b <;> simp [seqD]
theorem sq_sort (b : Bool) (as : List Int) : sortedF [seqD b (as.map PyData.int)] = some (.own (.lst ((sortI as).map PyData.int))) := by cases b <;> simp [seqD]
structure EachI (bs : List Int) : Prop where
  lo : 1 ≤ bs.length
  hi : bs.length ≤ 60
  per : bs.Perm (rngI bs.length)
theorem EachI.mem {bs : List Int} (h : EachI bs) {x : Int} : x ∈ bs ↔ 0 ≤ x ∧ x < (bs.length : Int) := by rw [h.per.mem_iff, mem_rngI]
theorem EachI.nodup {bs : List Int} (h : EachI bs) : bs.Nodup := h.per.nodup_iff.mpr (rngI_nodup _)
theorem each_of {o : List Nat} {m : Nat} (O : IsOrd o m) (h1 : 1 ≤ m) (h2 : m ≤ 60) : EachI (o.map fun n : Nat => (n : Int)) := by
  have hl := O.len
  refine ⟨by rw [List.length_map]; omega, by rw [List.length_map]; omega, ?_⟩
  rw [List.length_map, hl]
  exact List.Perm.map _ O
theorem each_dec (b : Bool) (bs : List Int) (h : 1 ≤ bs.length ∧ bs.length ≤ 60) : fn_is_each_once [seqD b (bs.map PyData.int)] = .ok (.val (.bool (decide (sortI bs = rngI bs.length)))) := by
  have hl := sq_len b (bs.map PyData.int)
  rw [List.length_map] at hl
  have hs := sq_sort b bs
  have hr := f_lrg1N (n := bs.length) (by omega)
  rw [toI, show ((List.range bs.length).map fun n : Nat => (n : Int)) = rngI bs.length from rfl] at hr
  have he := f_eqLI (sortI bs) (rngI bs.length)
  obtain ⟨h1, h2⟩ := h
  have q1 : (1 : Int) ≤ (bs.length : Int) := by omega
  have q2 : (bs.length : Int) ≤ 60 := by omega
  generalize decide (sortI bs = rngI bs.length) = d at *
  generalize (rngI bs.length).map PyData.int = R at *
  generalize (sortI bs).map PyData.int = S at *
  generalize seqD b (bs.map PyData.int) = A at *
  generalize (bs.length : Int) = z at *
  simp [fn_is_each_once, runDef, m_is_each_once, hl, hs, hr, he, q1, q2]
theorem each_good (b : Bool) {bs : List Int} (h : EachI bs) : fn_is_each_once [seqD b (bs.map PyData.int)] = .ok (.val (.bool true)) := by
  rw [each_dec b bs ⟨h.lo, h.hi⟩, decide_eq_true (sortI_eq h.per.symm (rngI_sorted _)).symm]
theorem each_bad (b : Bool) {bs : List Int} (h : ¬ EachI bs) : fn_is_each_once [seqD b (bs.map PyData.int)] = .ok (.val (.bool false)) := by
  by_cases hl : 1 ≤ bs.length ∧ bs.length ≤ 60
  · rw [each_dec b bs hl, decide_eq_false]
    intro e
    exact h ⟨hl.1, hl.2, e ▸ (sortI_spec bs).1.symm⟩
  · have hn := sq_len b (bs.map PyData.int)
    rw [List.length_map] at hn
    have q : ¬ (1 : Int) ≤ (bs.length : Int) ∨ ((1 : Int) ≤ (bs.length : Int) ∧ ¬ (bs.length : Int) ≤ 60) := by omega
    generalize seqD b (bs.map PyData.int) = A at *
    generalize (bs.length : Int) = z at *
    rcases q with q | ⟨q1, q2⟩
    · simp [fn_is_each_once, runDef, m_is_each_once, hn, q]
    · simp [fn_is_each_once, runDef, m_is_each_once, hn, q1, q2]

/-! ### the order of rings -/
theorem perm_surj : ∀ (A B : List Nat), A.Nodup → (∀ x ∈ A, x ∈ B) → B.length ≤ A.length → B.Perm A
  | [], B, _, _, h => by
    have : B = [] := List.eq_nil_of_length_eq_zero (by simpa using h)
    subst this; exact .refl _
  | a :: A, B, hn, hm, hl => by
    have ha := hm a List.mem_cons_self
    have hn' := List.nodup_cons.mp hn
    have ih := perm_surj A (B.erase a) hn'.2 (fun x hx => (List.mem_erase_of_ne (fun z => hn'.1 (by rw [← z]; exact hx))).mpr (hm x (List.mem_cons_of_mem _ hx))) (by rw [List.length_erase_of_mem ha]; rw [List.length_cons] at hl; omega)
    exact (List.perm_cons_erase ha).trans (ih.cons a)
structure RingsOk (n : Nat) (rs : List (List Nat)) : Prop where
  ne : ∀ r ∈ rs, ∃ b t, r = b :: t ∧ ∀ x ∈ r, b ≤ x
  hds : (rs.map fun r => r.headD 0).Pairwise (· < ·)
  perm : rs.flatten.Perm (List.range n)
theorem RingsOk.nd {n : Nat} {rs : List (List Nat)} (K : RingsOk n rs) : rs.flatten.Nodup := K.perm.nodup_iff.mpr List.nodup_range
theorem RingsOk.lt {n : Nat} {rs : List (List Nat)} (K : RingsOk n rs) {r : List Nat} (hr : r ∈ rs) {x : Nat} (hx : x ∈ r) : x < n := List.mem_range.mp (K.perm.mem_iff.mp (List.mem_flatten.mpr ⟨r, hr, hx⟩))
/-- the names along a ring -/
structure Along (N r : List Nat) : Prop where
  st : ∀ (p : Nat) (h : p + 1 < r.length), gat N r[p] = r[p + 1]
  cl : ∀ (h : r ≠ []), gat N (r.getLast h) = r[0]'(List.length_pos_iff.mpr h)
theorem Along.keep {N N' r : List Nat} (h : Along N r) (hs : ∀ x ∈ r, gat N' x = gat N x) : Along N' r :=
  ⟨fun p hp => by rw [hs _ (List.getElem_mem _)]; exact h.st p hp, fun hr => by rw [hs _ (List.getLast_mem _)]; exact h.cl hr⟩
theorem along_found {N : List Nat} {n : Nat} {rs : List (List Nat)} (K : RingsOk n rs) (hN : N.length = n) (h : ∀ r ∈ rs, Along N r) : IsOrd N n ∧ Found N n n rs := by
  have hall : ∀ x, x < n → x ∈ rs.flatten := fun x hx => K.perm.mem_iff.mpr (List.mem_range.mpr hx)
  have O : IsOrd N n := by
    refine perm_surj _ _ List.nodup_range (fun z hz => ?_) (by simp [hN])
    obtain ⟨r, hr, hzr⟩ := List.mem_flatten.mp (hall z (List.mem_range.mp hz))
    obtain ⟨p, hp, rfl⟩ := List.getElem_of_mem hzr
    have hmem : ∀ y, y < n → gat N y ∈ N := fun y hy => by rw [gat_eq (by omega)]; exact List.getElem_mem _
    cases p with
    | zero =>
      have hne : r ≠ [] := List.length_pos_iff.mp hp
      rw [← (h r hr).cl hne]
      exact hmem _ (K.lt hr (List.getLast_mem _))
    | succ p =>
      rw [← (h r hr).st p hp]
      exact hmem _ (K.lt hr (List.getElem_mem _))
  refine ⟨O, ⟨fun r hr => ?_, K.hds, K.nd, hall⟩⟩
  obtain ⟨b, t, rfl, hb⟩ := K.ne r hr
  refine ⟨b, { hd := rfl, lt := fun x hx => K.lt hr hx, nd := flat_nd K.nd _ hr, st := (h _ hr).st, cl := ?_ }, K.lt hr List.mem_cons_self, hb⟩
  have := (h _ hr).cl (by simp)
  exact this

/-! ### rings in any order, from any box on -/
theorem flat_many : ∀ rs : List (List Nat), (∀ r ∈ rs, 0 < r.length) → rs.length ≤ rs.flatten.length
  | [], _ => Nat.le_refl _
  | r :: rs, h => by
    have h1 := flat_many rs fun r hr => h r (List.mem_cons_of_mem _ hr)
    have h2 := h r List.mem_cons_self
    rw [List.flatten_cons, List.length_append, List.length_cons]
    omega
structure RingsAny (n : Nat) (rs : List (List Nat)) : Prop where
  ne : ∀ r ∈ rs, ∃ b t, r = b :: t ∧ True
  perm : rs.flatten.Perm (List.range n)
theorem RingsAny.nd {n : Nat} {rs : List (List Nat)} (K : RingsAny n rs) : rs.flatten.Nodup := K.perm.nodup_iff.mpr List.nodup_range
theorem RingsAny.lt {n : Nat} {rs : List (List Nat)} (K : RingsAny n rs) {r : List Nat} (hr : r ∈ rs) {x : Nat} (hx : x ∈ r) : x < n := List.mem_range.mp (K.perm.mem_iff.mp (List.mem_flatten.mpr ⟨r, hr, hx⟩))
theorem along_ordA {N : List Nat} {n : Nat} {rs : List (List Nat)} (K : RingsAny n rs) (hN : N.length = n) (h : ∀ r ∈ rs, Along N r) : IsOrd N n := by
  have hall : ∀ x, x < n → x ∈ rs.flatten := fun x hx => K.perm.mem_iff.mpr (List.mem_range.mpr hx)
  refine perm_surj _ _ List.nodup_range (fun z hz => ?_) (by simp [hN])
  obtain ⟨r, hr, hzr⟩ := List.mem_flatten.mp (hall z (List.mem_range.mp hz))
  obtain ⟨p, hp, rfl⟩ := List.getElem_of_mem hzr
  have hmem : ∀ y, y < n → gat N y ∈ N := fun y hy => by rw [gat_eq (by omega)]; exact List.getElem_mem _
  cases p with
  | zero =>
    have hne : r ≠ [] := List.length_pos_iff.mp hp
    rw [← (h r hr).cl hne]
    exact hmem _ (K.lt hr (List.getLast_mem _))
  | succ p =>
    rw [← (h r hr).st p hp]
    exact hmem _ (K.lt hr (List.getElem_mem _))

def rowsM (qs : List (Bool × List Nat)) : List D := qs.map fun q => seqD q.1 (q.2.map nt)
theorem sq_ext (b : Bool) (as ds : List D) : extF as [seqD b ds] = extF as [.list ds] := by cases b <;> rfl
theorem sq_ix (b : Bool) (ds : List D) (i : Int) : ixF (seqD b ds) (.int i) = (atI ds i).map Rv.val := by cases b <;> rfl
theorem sp_order_byM {n : Nat} {rs : List (List Nat)} {qs : List (Bool × List Nat)} (hqs : qs.map Prod.snd = rs) (K : RingsAny n rs) (h1 : 1 ≤ n) (hn : n ≤ 60) : ∃ N, IsOrd N n ∧ (∀ r ∈ rs, Along N r) ∧ fn_order_by [.list (rowsM qs)] = .ok (.val (.tuple (N.map nt))) := by
  have hql : qs.length = rs.length := by rw [← hqs, List.length_map]
  have hqi : ∀ (i : Nat) (hi : i < qs.length) (hi' : i < rs.length), ∃ b, qs[i] = (b, rs[i]) := fun i hi hi' => ⟨qs[i].1, by simp only [← hqs, List.getElem_map]⟩
  have hflen : rs.flatten.length = n := by rw [K.perm.length_eq]; simp
  have hlen : rs.length ≤ n := by
    have := flat_many rs fun r hr => by
      obtain ⟨b, t, rfl, _⟩ := K.ne r hr
      simp
    omega
  -- the boxes of all rings
  obtain ⟨E', e, s2, h2, hh2, rfl⟩ := for_map (g := mStore 2) (b := bd_order_by_1) (mi := mIt (mVar 0)) (f := fun q : Bool × List Nat => seqD q.1 (q.2.map nt)) (as := qs)
    (E := [.val (.list (rowsM qs)), .own (.lst ((rs.take 0).flatten.map nt)), .un, .un, .un]) (E1 := [.val (.list (rowsM qs)), .own (.lst ((rs.take 0).flatten.map nt)), .un, .un, .un])
    (by
      rw [show (qs.map fun q : Bool × List Nat => seqD q.1 (q.2.map nt)) = rowsM qs from rfl]
      generalize rowsM qs = R at *
      generalize (rs.take 0).flatten.map nt = A at *
      simp)
    (fun i E => ∃ s2 : MP.Slot, s2.free = true ∧ canHide s2 = true ∧ E = [.val (.list (rowsM qs)), .own (.lst ((rs.take i).flatten.map nt)), s2, .un, .un]) ⟨.un, rfl, rfl, rfl⟩
    (fun i hiq E ⟨s2, h2, _, hE⟩ => by
      subst hE
      have hi : i < rs.length := by omega
      obtain ⟨bb, hbb⟩ := hqi i hiq hi
      rw [hbb]
      have hsub : (rs.take (i + 1)).flatten.length ≤ n := by
        have : (rs.take (i + 1)).flatten.length + (rs.drop (i + 1)).flatten.length = n := by rw [← List.length_append, ← List.flatten_append, List.take_append_drop, hflen]
        omega
      have hext : extF ((rs.take i).flatten.map nt) [seqD bb (rs[i].map nt)] = some ((rs.take (i + 1)).flatten.map nt, .none) := by
        rw [sq_ext]
        unfold extF
        simp only
        rw [flat_take hi] at hsub ⊢
        rw [List.length_append] at hsub
        rw [ok_pos (show ((rs.take i).flatten.map nt).length + (rs[i].map nt).length ≤ big by rw [List.length_map, List.length_map]; unfold big; omega), List.map_append]
      refine ⟨[.val (.list (rowsM qs)), .own (.lst ((rs.take i).flatten.map nt)), .val (seqD bb (rs[i].map nt)), .un, .un], [.val (.list (rowsM qs)), .own (.lst ((rs.take (i + 1)).flatten.map nt)), .val (seqD bb (rs[i].map nt)), .un, .un], ?_, .inl ?_, _, rfl, rfl, rfl⟩
      · generalize rowsM qs = R at *
        generalize (rs.take i).flatten.map nt = A at *
        dsimp only
        generalize seqD bb (rs[i].map nt) = B at *
        simp [h2]
      · generalize rowsM qs = R at *
        generalize (rs.take i).flatten.map nt = A at *
        generalize (rs.take (i + 1)).flatten.map nt = A2 at *
        generalize seqD bb (rs[i].map nt) = B at *
        simp [bd_order_by_1, hext])
  rw [hql, List.take_of_length_le (Nat.le_refl _)] at e
  have e' : lp_order_by_1 [.val (.list (rowsM qs)), .own (.lst []), .un, .un, .un] = _ := e
  have hf : IsOrd rs.flatten n := K.perm
  have hE := each_of hf h1 hn
  have heach := each_good true hE
  rw [← toI] at heach
  have heach' : fn_is_each_once [.list (rs.flatten.map nt)] = .ok (.val (.bool true)) := heach
  have hlc : ∀ A : List D, lc_order_by_1 [.val (.list (rowsM qs)), .own (.lst A), s2, .un, .un] = .ok (.own (.lst ((rs.map List.length).map nt))) [.val (.list (rowsM qs)), .own (.lst A), s2, .un, .un] := fun A => by
    rw [← hqs, List.map_map, List.map_map]
    refine lc_map (j := 2) (f := fun q : Bool × List Nat => seqD q.1 (q.2.map nt)) (as := qs) (fun q => nt q.2.length) ?_ ?_ (by omega) fun q hq => ⟨.val (.int (q.2.length : Int)), ?_, rfl⟩
    · rw [show (qs.map fun q : Bool × List Nat => seqD q.1 (q.2.map nt)) = rowsM qs from rfl]
      generalize rowsM qs = R at *
      simp
    · exact hh2
    · have hrl := sq_len q.1 (q.2.map nt)
      rw [List.length_map] at hrl
      generalize seqD q.1 (q.2.map nt) = B at *
      generalize rowsM qs = R at *
      simp [el_order_by_1, hrl]
  have hin : inF (.int 0) (.list ((rs.map List.length).map nt)) = some (.val (.bool false)) := by
    have := f_inN 0 (rs.map List.length)
    rw [show ((0 : Nat) : Int) = 0 from rfl] at this
    rw [this, decide_eq_false]
    intro hm
    obtain ⟨r, hr, e⟩ := List.mem_map.mp hm
    obtain ⟨b, t, rfl, _⟩ := K.ne r hr
    cases e
  have hfl : (rs.flatten.map nt).length = n := by rw [List.length_map, hflen]
  have hrep : ∀ E : SEnv, E[1]? = some (.own (.lst (rs.flatten.map nt))) → mMul (mLst (mA1 (mD (.int 0)) mA0)) (mN lenF (mA1 (mVar 1) mA0)) E = .ok (.own (.lst ((List.replicate n 0).map nt))) E := fun E e1 => by
    rw [List.map_replicate]
    refine mMul_rep (E1 := E) (r2 := .val (.int (n : Int))) (by simp [lstF, nt]) ?_ rfl (by omega)
    generalize rs.flatten.map nt = A at *
    simp [e1, hfl]
  -- the names
  obtain ⟨E', e3, N, s2', s4', h2', h4', hN, hal, rfl⟩ := for_map (g := mStore 2) (b := bd_order_by_3) (mi := mIt (mVar 0)) (f := fun q : Bool × List Nat => seqD q.1 (q.2.map nt)) (as := qs)
    (E := [.val (.list (rowsM qs)), .own (.lst (rs.flatten.map nt)), s2, .own (.lst ((List.replicate n 0).map nt)), .un]) (E1 := [.val (.list (rowsM qs)), .own (.lst (rs.flatten.map nt)), s2, .own (.lst ((List.replicate n 0).map nt)), .un])
    (by
      rw [show (qs.map fun q : Bool × List Nat => seqD q.1 (q.2.map nt)) = rowsM qs from rfl]
      generalize rowsM qs = R at *
      generalize rs.flatten.map nt = A at *
      generalize (List.replicate n 0).map nt = B at *
      simp)
    (fun i E => ∃ (N : List Nat) (s2 s4 : MP.Slot), s2.free = true ∧ s4.free = true ∧ N.length = n ∧ (∀ r ∈ rs.take i, Along N r) ∧ E = [.val (.list (rowsM qs)), .own (.lst (rs.flatten.map nt)), s2, .own (.lst (N.map nt)), s4]) ⟨List.replicate n 0, s2, .un, h2, rfl, by simp, fun r hr => (by cases hr), rfl⟩
    (fun i hiq E ⟨N, s2, s4, h2, h4, hN, hal, hE⟩ => by
      subst hE
      have hi : i < rs.length := by omega
      obtain ⟨bb, hbb⟩ := hqi i hiq hi
      rw [hbb]
      have hri : rs[i] ∈ rs := List.getElem_mem _
      have hap : ∀ x ∈ rs[i], ∀ r ∈ rs.take i, x ∉ r := fun x hx r hr hxr => flat_apart K.nd hi hx (List.mem_flatten.mpr ⟨r, hr, hxr⟩)
      have hrn : rs[i].Nodup := flat_nd K.nd _ hri
      have hrlt : ∀ x ∈ rs[i], x < n := fun x hx => K.lt hri hx
      obtain ⟨b, t, hbt, _⟩ := K.ne _ hri
      have hrtk : rs.take (i + 1) = rs.take i ++ [rs[i]] := by rw [List.take_succ, List.getElem?_eq_getElem hi]; rfl
      generalize rs[i] = r at *
      have hne : r ≠ [] := by rw [hbt]; simp
      have hpos : 0 < r.length := List.length_pos_iff.mpr hne
      have hrl : (r.map nt).length = r.length := List.length_map _
      have hrn60 : r.length ≤ n := nodup_len hrn hrlt
      obtain ⟨E2, e2, M, s4', h4', hM, hout, hst, hcl, rfl⟩ := for_rng (g := mStore 4) (b := bd_order_by_2) (mi := mRng rng1F (mA1 (mN lenF (mA1 (mVar 2) mA0)) mA0)) (n := r.length)
        (E := [.val (.list (rowsM qs)), .own (.lst (rs.flatten.map nt)), .val (seqD bb (r.map nt)), .own (.lst (N.map nt)), s4]) (E1 := [.val (.list (rowsM qs)), .own (.lst (rs.flatten.map nt)), .val (seqD bb (r.map nt)), .own (.lst (N.map nt)), s4])
        (by
          have := f_rng1N (show r.length ≤ 1000000 by omega)
          have hsl := sq_len bb (r.map nt)
          rw [hrl] at hsl
          generalize rowsM qs = R at *
          generalize rs.flatten.map nt = A at *
          generalize N.map nt = B at *
          generalize seqD bb (r.map nt) = C at *
          generalize (List.range r.length).map nt = Q at *
          simp [this, hsl])
        (fun k E => ∃ (M : List Nat) (s4 : MP.Slot), s4.free = true ∧ M.length = n ∧ (∀ x, x ∉ r → gat M x = gat N x) ∧ (∀ (p : Nat) (h : p + 1 < r.length), p + 1 < k → gat M (r[p]'(Nat.lt_of_succ_lt h)) = r[p + 1]'h) ∧ (1 ≤ k → gat M (r.getLast hne) = r[0]'hpos) ∧ E = [.val (.list (rowsM qs)), .own (.lst (rs.flatten.map nt)), .val (seqD bb (r.map nt)), .own (.lst (M.map nt)), s4])
        ⟨N, s4, h4, hN, fun _ _ => rfl, fun p h hk => absurd hk (by omega), fun hk => absurd hk (by omega), rfl⟩
        (fun k hk E ⟨M, s4, h4, hM, hout, hst, hcl, hE⟩ => by
          subst hE
          have hat : atI (r.map nt) (k : Int) = some (.int ((r[k]'hk : Nat) : Int)) := by rw [atI_map, atI_get' hk]; rfl
          obtain ⟨y, hy, hyr, hyk, hylast⟩ : ∃ y, atI (r.map nt) ((k : Int) - 1) = some (.int ((y : Nat) : Int)) ∧ y ∈ r ∧ (∀ (h : k - 1 < r.length), 1 ≤ k → y = r[k - 1]'h) ∧ (k = 0 → y = r.getLast hne) := by
            by_cases q : k = 0
            · subst q
              exact ⟨r.getLast hne, by rw [show ((0 : Nat) : Int) - 1 = -1 from rfl, atI_map, atI_last' hne]; rfl, List.getLast_mem _, fun _ h => absurd h (by omega), fun _ => rfl⟩
            · exact ⟨r[k - 1], by rw [show (k : Int) - 1 = ((k - 1 : Nat) : Int) by omega, atI_map, atI_get' (show k - 1 < r.length by omega)]; rfl, List.getElem_mem _, fun _ _ => rfl, fun z => absurd z q⟩
          have hix : ixN n (y : Int) = some y := ixN_n (hrlt y hyr)
          have hMl : (M.map nt).length = n := by rw [List.length_map, hM]
          have hgs : ∀ x, gat (M.set y r[k]) x = if x = y then r[k] else gat M x := fun x => gat_set (by rw [hM]; exact hrlt y hyr)
          refine ⟨[.val (.list (rowsM qs)), .own (.lst (rs.flatten.map nt)), .val (seqD bb (r.map nt)), .own (.lst (M.map nt)), .val (.int (k : Int))], [.val (.list (rowsM qs)), .own (.lst (rs.flatten.map nt)), .val (seqD bb (r.map nt)), .own (.lst ((M.set y r[k]).map nt)), .val (.int (k : Int))], ?_, .inl ?_, M.set y r[k], _, rfl, by rw [List.length_set, hM], fun x hx => ?_, fun p hp hpk => ?_, fun _ => ?_, rfl⟩
          · generalize rowsM qs = R at *
            generalize rs.flatten.map nt = A at *
            generalize M.map nt = B at *
            generalize seqD bb (r.map nt) = C at *
            simp [h4]
          · rw [show (M.set y r[k]).map nt = (M.map nt).set y (.int ((r[k] : Nat) : Int)) by rw [List.map_set]; rfl]
            generalize rowsM qs = R at *
            generalize rs.flatten.map nt = A at *
            generalize M.map nt = B at *
            generalize r[k] = z at *
            have hx1 := sq_ix bb (r.map nt) (k : Int)
            have hx2 := sq_ix bb (r.map nt) ((k : Int) - 1)
            rw [hat] at hx1
            rw [hy] at hx2
            generalize seqD bb (r.map nt) = C at *
            simp [bd_order_by_2, hx1, hx2, hMl, hix]
          · rw [hgs, if_neg (fun z => hx (by rw [z]; exact hyr))]
            exact hout x hx
          · rw [hgs]
            by_cases q : k = 0
            · omega
            · have hyq := hyk (by omega) (by omega)
              by_cases q2 : p = k - 1
              · subst q2
                rw [if_pos (by rw [hyq])]
                simp only [show k - 1 + 1 = k by omega]
              · rw [if_neg (fun z => q2 ((List.getElem_inj hrn).mp (z.trans hyq)))]
                exact hst p hp (by omega)
          · rw [hgs]
            by_cases q : k = 0
            · subst q
              rw [if_pos (hylast rfl).symm]
            · have hyq := hyk (by omega) (by omega)
              rw [if_neg (fun z => by
                rw [hyq, List.getLast_eq_getElem] at z
                have := (List.getElem_inj hrn).mp z
                omega)]
              exact hcl (by omega))
      have e2' : bd_order_by_3 [.val (.list (rowsM qs)), .own (.lst (rs.flatten.map nt)), .val (seqD bb (r.map nt)), .own (.lst (N.map nt)), s4] = _ := e2
      refine ⟨[.val (.list (rowsM qs)), .own (.lst (rs.flatten.map nt)), .val (seqD bb (r.map nt)), .own (.lst (N.map nt)), s4], _, ?_, .inl e2', M, _, _, rfl, h4', hM, fun r' hr' => ?_, rfl⟩
      · generalize rowsM qs = R at *
        generalize rs.flatten.map nt = A at *
        generalize N.map nt = B at *
        dsimp only
        generalize seqD bb (r.map nt) = C at *
        simp [h2]
      · rw [hrtk] at hr'
        rcases List.mem_append.mp hr' with h | h
        · exact (hal r' h).keep fun x hx => hout x fun hxr => hap x hxr r' h hx
        · rw [List.mem_singleton.mp h]
          exact ⟨fun p hp => hst p hp hp, fun _ => hcl hpos⟩)
  have e3' : lp_order_by_3 [.val (.list (rowsM qs)), .own (.lst (rs.flatten.map nt)), s2, .own (.lst ((List.replicate n 0).map nt)), .un] = _ := e3
  rw [hql, List.take_of_length_le (Nat.le_refl _)] at hal
  have O := along_ordA K hN hal
  refine ⟨N, O, hal, ?_⟩
  have hp1 : pureAll (N.map nt) = true := p_nats _
  have hlc' := hlc (rs.flatten.map nt)
  generalize (rs.map List.length).map nt = LT at *
  generalize (List.replicate n 0).map nt = RP at *
  generalize rowsM qs = R at *
  generalize rs.flatten.map nt = A at *
  generalize N.map nt = B at *
  simp [fn_order_by, runDef, m_order_by, lstF, e', heach', hlc', hin, hrep, e3', hp1, -e_mMul]

/-! ### the nest, by simp -/
@[simp] theorem e_nlen (i : Nat) (E : SEnv) : mNlen i E = match nview E[i]? with
  | some (_, xs) => .ok (.val (.int (xs.length : Nat))) E
  | none => .no := rfl
@[simp] theorem e_nin {α : Type} (tup : Bool) (i : Nat) (mi : M Ret) (k : Bool → List NE → Nat → NE → M α) (E : SEnv) : mNin tup i mi k E = if (nview E[i]?).isSome = true then (mi E).bind fun ri E1 => match nview E1[i]?, dat E1 ri with
  | some (b, xs), some (.int n) => (match ixN xs.length n with
    | some m => (match xs[m]? with
      | some x => if x.1.isSome = tup then k b xs m x E1 else .no
      | none => .no)
    | none => .no)
  | _, _ => .no else .no := rfl
@[simp] theorem e_nlenI (tup : Bool) (i : Nat) (mi : M Ret) : mNlenI tup i mi = mNin tup i mi fun _ _ _ x E => .ok (.val (.int (x.2.length : Nat))) E := rfl
@[simp] theorem e_napp (tup : Bool) (i : Nat) (mi : M Ret) (j : Nat) : mNapp tup i mi j = mNin tup i mi fun b xs m x E => match E[j]? with
  | some (.val d) => if Ok (x.2.length < big) then .ok (.val .none) (E.set i (.nst b (xs.set m (x.1, x.2 ++ [d])))) else .no
  | _ => .no := rfl
@[simp] theorem e_npush (i : Nat) (ms : M (List Ret)) (E : SEnv) : mNpush i ms E = if (nview E[i]?).isSome = true then (ms E).bind fun rs E1 => match rs with
  | [r1, .own (.lst ds)] => (match take E1 r1 with
    | some (d, E2) => (match nview E2[i]? with
      | some (b, xs) => if Ok (xs.length < big) then .ok (.val .none) (E2.set i (.nst b (xs ++ [(some d, ds)]))) else .no
      | none => .no)
    | none => .no)
  | _ => .no else .no := rfl
@[simp] theorem e_npop (i j k : Nat) (E : SEnv) : mNpop i j k E = match nview E[i]?, E[j]?, E[k]? with
  | some (b, xs), some sj, some sk => if sj.free = true ∧ sk.free = true ∧ i ≠ j ∧ i ≠ k ∧ j ≠ k then (match xs.getLast? with
    | some (some d, ds) => .ok .nx (((E.set i (.nst b xs.dropLast)).set j (.val d)).set k (.own (.lst ds)))
    | _ => .no) else .no
  | _, _, _ => .no := rfl
@[simp] theorem e_callN (k : Nat) (g : List D → List NE → List D → Option (D × List NE)) (ms : M (List Ret)) (E : SEnv) : mCallN k g ms E = (ms E).bind fun rs E1 => match rs.drop k with
  | .bor i :: r2 => (match takes E1 (rs.take k ++ r2) with
    | some (ds, E2) => (match nview E2[i]? with
      | some (b, xs) => (match g (ds.take k) xs (ds.drop k) with
        | some (d, xs') => .ok (.val d) (E2.set i (.nst b xs'))
        | none => .no)
      | none => .no)
    | none => .no)
  | _ => .no := rfl
@[simp] theorem nv_nst (b : Bool) (xs : List NE) : nview (some (.nst b xs)) = some (b, xs) := rfl
@[simp] theorem nv_nil : nview (some (.own (.lst []))) = some (false, []) := rfl
theorem while_ret {c : M Bool} {b : M Fl} {E E1 E2 : SEnv} {r : Ret} (hc : c E = .ok true E1) (hb : b E1 = .ok (.rt r) E2) : mWhile c b E = .ok (.rt r) E2 := by
  have h : mWhileF c b 1 E = .ok (.rt r) E2 := by
    simp [mWhileF, hc, hb]
  rw [while_eq (n := 1) (by rw [h]; intro z; cases z), h]
theorem ixN_last {α : Type} (A : List α) (x : α) : ixN (A ++ [x]).length (-1) = some A.length := by
  rw [List.length_append, List.length_singleton]
  unfold ixN
  rw [if_neg (by omega), if_pos (by omega)]
  congr 1
  omega
theorem at_last {α : Type} (A : List α) (x : α) : (A ++ [x])[A.length]? = some x := by simp
theorem set_last {α : Type} (A : List α) (x y : α) : (A ++ [x]).set A.length y = A ++ [y] := by simp

@[simp] theorem e_npushL (i : Nat) (ms : M (List Ret)) (E : SEnv) : mNpushL i ms E = if (nview E[i]?).isSome = true then (ms E).bind fun rs E1 => match rs with
  | [.own (.lst ds)] => (match nview E1[i]? with
    | some (b, xs) => if Ok (xs.length < big) then .ok (.val .none) (E1.set i (.nst b (xs ++ [(none, ds)]))) else .no
    | none => .no)
  | _ => .no else .no := rfl
@[simp] theorem e_nins (i : Nat) (ms : M (List Ret)) (E : SEnv) : mNins i ms E = if (nview E[i]?).isSome = true then (ms E).bind fun rs E1 => match rs with
  | [r1, .own (.lst ds)] => (match dat E1 r1, nview E1[i]? with
    | some (.int n), some (b, xs) => if Ok (0 ≤ n ∧ n.toNat ≤ xs.length ∧ xs.length < big) then .ok (.val .none) (E1.set i (.nst b (xs.take n.toNat ++ [(none, ds)] ++ xs.drop n.toNat))) else .no
    | _, _ => .no)
  | _ => .no else .no := rfl
@[simp] theorem e_napp0 (i j : Nat) (c : Int) (E : SEnv) : mNapp0 i j c E = match nview E[i]?, E[j]? with
  | some (b, xs), some (.val (.int n)) => (match ixN xs.length n with
    | some m => (match xs[m]? with
      | some (none, ds) => (match atI ds c with
        | some d => if Ok (ds.length < big) then .ok (.val .none) (E.set i (.nst b (xs.set m (none, ds ++ [d])))) else .no
        | none => .no)
      | _ => .no)
    | none => .no)
  | _, _ => .no := rfl
@[simp] theorem e_nset (i j : Nat) (c : Int) (me : M Ret) (E : SEnv) : mNset i j c me E = (me E).bind fun r E1 => match take E1 r with
  | some (d, E2) => (match nview E2[i]?, E2[j]? with
    | some (b, xs), some (.val (.int n)) => (match ixN xs.length n with
      | some m => (match xs[m]? with
        | some (none, ds) => (match ixN ds.length c with
          | some l => .ok .nx (E2.set i (.nst b (xs.set m (none, ds.set l d))))
          | none => .no)
        | _ => .no)
      | none => .no)
    | _, _ => .no)
  | none => .no := rfl
@[simp] theorem e_ntake (i : Nat) (E : SEnv) : mNtake i E = match nview E[i]? with
  | some (false, xs) => (match plainN xs with
    | some ds => .ok (.own (.lst ds)) (E.set i .un)
    | none => .no)
  | _ => .no := rfl
def rowsZ (L : List (List Int)) : List D := L.map fun r => .list (r.map PyData.int)
def neZ (L : List (List Int)) : List NE := L.map fun r => (none, r.map PyData.int)
theorem plain_neZ : ∀ L : List (List Int), plainN (neZ L) = some (rowsZ L)
  | [] => rfl
  | r :: L => by
    show (plainN (neZ L)).map _ = _
    rw [plain_neZ L]
    rfl
theorem items_M : ∀ qs : List (Bool × List Nat), itemsLs (rowsM qs) = some (qs.map fun q => (q.2.map fun n : Nat => (n : Int)).map PyData.int)
  | [] => rfl
  | (b, r) :: qs => by
    have h : itemsL (seqD b (r.map nt)) = some ((r.map fun n : Nat => (n : Int)).map PyData.int) := by
      rw [← toI]; cases b <;> rfl
    show (match itemsL (seqD b (r.map nt)), itemsLs (rowsM qs) with
      | some x, some xs => some (x :: xs)
      | _, _ => none) = _
    rw [h, items_M qs]
    rfl
/-! ### rings that are none -/
theorem flat_takeZ {L : List (List Int)} {i : Nat} (hi : i < L.length) : (L.take (i + 1)).flatten = (L.take i).flatten ++ L[i] := by
  rw [List.take_succ, List.getElem?_eq_getElem hi, List.flatten_append]; simp
theorem by_bad {L : List (List Int)} (hb : ¬ EachI L.flatten ∨ [] ∈ L) (hl : L.flatten.length ≤ 1000) (hr : L.length ≤ 1000) : fn_order_by [.list (rowsZ L)] = .ex ⟨.BadOrder, none⟩ := by
  obtain ⟨E', e, s2, h2, hh2, rfl⟩ := for_map (g := mStore 2) (b := bd_order_by_1) (mi := mIt (mVar 0)) (f := fun r : List Int => PyData.list (r.map PyData.int)) (as := L)
    (E := [.val (.list (rowsZ L)), .own (.lst ((L.take 0).flatten.map PyData.int)), .un, .un, .un]) (E1 := [.val (.list (rowsZ L)), .own (.lst ((L.take 0).flatten.map PyData.int)), .un, .un, .un])
    (by
      rw [show (L.map fun r : List Int => PyData.list (r.map PyData.int)) = rowsZ L from rfl]
      generalize rowsZ L = R at *
      generalize (L.take 0).flatten.map PyData.int = A at *
      simp)
    (fun i E => ∃ s2 : MP.Slot, s2.free = true ∧ canHide s2 = true ∧ E = [.val (.list (rowsZ L)), .own (.lst ((L.take i).flatten.map PyData.int)), s2, .un, .un]) ⟨.un, rfl, rfl, rfl⟩
    (fun i hi E ⟨s2, h2, _, hE⟩ => by
      subst hE
      have hsub : (L.take (i + 1)).flatten.length ≤ 1000 := by
        have : (L.take (i + 1)).flatten.length + (L.drop (i + 1)).flatten.length = L.flatten.length := by rw [← List.length_append, ← List.flatten_append, List.take_append_drop]
        omega
      have hext : extF ((L.take i).flatten.map PyData.int) [.list (L[i].map PyData.int)] = some ((L.take (i + 1)).flatten.map PyData.int, .none) := by
        unfold extF
        simp only
        rw [flat_takeZ hi] at hsub ⊢
        rw [List.length_append] at hsub
        rw [ok_pos (show ((L.take i).flatten.map PyData.int).length + (L[i].map PyData.int).length ≤ big by rw [List.length_map, List.length_map]; unfold big; omega), List.map_append]
      refine ⟨[.val (.list (rowsZ L)), .own (.lst ((L.take i).flatten.map PyData.int)), .val (.list (L[i].map PyData.int)), .un, .un], [.val (.list (rowsZ L)), .own (.lst ((L.take (i + 1)).flatten.map PyData.int)), .val (.list (L[i].map PyData.int)), .un, .un], ?_, .inl ?_, _, rfl, rfl, rfl⟩
      · generalize rowsZ L = R at *
        generalize (L.take i).flatten.map PyData.int = A at *
        generalize L[i].map PyData.int = B at *
        simp [h2]
      · generalize rowsZ L = R at *
        generalize (L.take i).flatten.map PyData.int = A at *
        generalize (L.take (i + 1)).flatten.map PyData.int = A2 at *
        generalize L[i].map PyData.int = B at *
        simp [bd_order_by_1, hext])
  rw [List.take_length] at e
  have e' : lp_order_by_1 [.val (.list (rowsZ L)), .own (.lst []), .un, .un, .un] = _ := e
  by_cases hE : EachI L.flatten
  · have hm : [] ∈ L := hb.resolve_left fun h => h hE
    have heach : fn_is_each_once [.list (L.flatten.map PyData.int)] = .ok (.val (.bool true)) := each_good true hE
    have hlc : ∀ A : List D, lc_order_by_1 [.val (.list (rowsZ L)), .own (.lst A), s2, .un, .un] = .ok (.own (.lst ((L.map List.length).map nt))) [.val (.list (rowsZ L)), .own (.lst A), s2, .un, .un] := fun A => by
      rw [List.map_map]
      refine lc_map (j := 2) (f := fun r : List Int => PyData.list (r.map PyData.int)) (as := L) (fun r => nt r.length) ?_ ?_ (by omega) fun r hr => ⟨.val (.int (r.length : Int)), ?_, rfl⟩
      · rw [show (L.map fun r : List Int => PyData.list (r.map PyData.int)) = rowsZ L from rfl]
        generalize rowsZ L = R at *
        simp
      · show canHide s2 = true
        exact hh2
      · have hlr : lenF [.list (r.map PyData.int)] = some (.val (.int (r.length : Int))) := by rw [f_lenL, List.length_map]
        generalize rowsZ L = R at *
        generalize r.map PyData.int = B at *
        simp [el_order_by_1, hlr, -f_lenL]
    have hin := f_inN 0 (L.map List.length)
    have h0 : 0 ∈ L.map List.length := List.mem_map.mpr ⟨[], hm, rfl⟩
    rw [decide_eq_true h0] at hin
    have hin' : inF (.int 0) (.list ((L.map List.length).map nt)) = some (.val (.bool true)) := hin
    have hlc' := hlc (L.flatten.map PyData.int)
    generalize (L.map List.length).map nt = N at *
    generalize L.flatten.map PyData.int = A at *
    generalize rowsZ L = R at *
    simp [fn_order_by, runDef, m_order_by, e', heach, hlc', hin', lstF]
  · have heach : fn_is_each_once [.list (L.flatten.map PyData.int)] = .ok (.val (.bool false)) := each_bad true hE
    generalize L.flatten.map PyData.int = A at *
    generalize rowsZ L = R at *
    simp [fn_order_by, runDef, m_order_by, e', heach, lstF]
theorem sp_refused {L : List (List Int)} (hb : ¬ EachI L.flatten ∨ [] ∈ L) (hl : L.flatten.length ≤ 1000) (hr : L.length ≤ 1000) : fn__law_refused [.list (rowsZ L)] = .ok (.val (.bool true)) := by
  have e := by_bad hb hl hr
  generalize rowsZ L = R at *
  simp [fn__law_refused, runDef, m__law_refused, tr__law_refused_1, e, caught, ist_0, ist_1, ist_2, isFree]

theorem neZ_len (L : List (List Int)) : (neZ L).length = L.length := by simp [neZ]
theorem sp_spoilt {n : Nat} {rs : List (List Nat)} {qs : List (Bool × List Nat)} (hqs : qs.map Prod.snd = rs) (K : RingsAny n rs) (h1 : 1 ≤ n) (hn : n ≤ 60) {w : Nat} (hw : w < 7) (c : Int) :
    ∃ L : List (List Int), fn__law_spoilt [.list (rowsM qs), .int (n : Int), .int (w : Int), .int c] = .ok (.own (.lst (rowsZ L))) ∧ (¬ EachI L.flatten ∨ [] ∈ L) ∧ L.flatten.length ≤ 1000 ∧ L.length ≤ 1000 := by
  -- the rings as whole numbers
  obtain ⟨Z, hZ⟩ : ∃ Z : List (List Int), Z = rs.map fun r => r.map fun x : Nat => (x : Int) := ⟨_, rfl⟩
  obtain ⟨XS, hit, hXS⟩ : ∃ XS, itemsLs (rowsM qs) = some XS ∧ (XS.map fun ds => ((none : Option D), ds)) = neZ Z := by
    refine ⟨_, items_M qs, ?_⟩
    rw [hZ, ← hqs]
    simp [neZ]
  have hfl : Z.flatten = rs.flatten.map fun x : Nat => (x : Int) := by rw [hZ, List.map_flatten]
  have hfp : Z.flatten.Perm (rngI n) := by rw [hfl]; exact List.Perm.map _ K.perm
  have hfn : Z.flatten.length = n := by rw [hfp.length_eq, rngI_len]
  have hnd : Z.flatten.Nodup := hfp.nodup_iff.mpr (rngI_nodup n)
  have hmem : ∀ x : Int, 0 ≤ x → x < (n : Int) → x ∈ Z.flatten := fun x h0 hx => hfp.mem_iff.mpr (mem_rngI.mpr ⟨h0, hx⟩)
  have hml : Z.length ≤ n := by
    rw [hZ, List.length_map]
    have := flat_many rs fun r hr => by
      obtain ⟨b, t, rfl, _⟩ := K.ne r hr
      simp
    rw [K.perm.length_eq, List.length_range] at this
    exact this
  have hm0 : 0 < Z.length := by
    cases Z with
    | nil => simp at hfn; omega
    | cons _ _ => simp
  have hqm : (rowsM qs).length < 100000 := by
    have : qs.length = Z.length := by rw [hZ, List.length_map, ← hqs, List.length_map]
    unfold rowsM
    rw [List.length_map]
    omega
  obtain ⟨a, ha⟩ := Int.eq_ofNat_of_zero_le (Int.emod_nonneg c (show (Z.length : Int) ≠ 0 by omega))
  have ham : a < Z.length := by
    have := Int.emod_lt_of_pos c (show (0 : Int) < (Z.length : Int) by omega)
    omega
  have hall : ∀ r ∈ Z, r ≠ [] := fun r hr => by
    rw [hZ] at hr
    obtain ⟨r', hr', e⟩ := List.mem_map.mp hr
    obtain ⟨b, t, rfl, _⟩ := K.ne r' hr'
    rw [← e]; simp
  have hrne : Z[a] ≠ [] := hall _ (List.getElem_mem ham)
  have hrl : Z[a].length ≤ n := by
    have := (List.sublist_flatten_of_mem (List.getElem_mem ham)).length_le
    omega
  have hr0 : 0 < Z[a].length := List.length_pos_iff.mpr hrne
  obtain ⟨P, hP0, hpow⟩ : ∃ P : Int, 0 < P ∧ powF (.int 10) (.int 60) = some (.val (.int P)) := by
    refine ⟨10 ^ (60 : Int).toNat, Int.pow_pos (by decide), ?_⟩
    show (if Ok ((0 : Int) ≤ 60 ∧ (60 : Int) ≤ 1000000 ∧ (10 : Int).natAbs < 2 ^ 64) then some (Rv.val (.int ((10 : Int) ^ (60 : Int).toNat))) else none) = _
    rw [ok_pos ⟨by decide, by decide, by decide⟩]
  have hf0 := Int.emod_nonneg (c / 60) (show P ≠ 0 by omega)
  generalize hf : c / 60 % P = f at *
  have l60 : Nat.log2 60 < 9000 := by decide
  have hlen := neZ_len Z
  have hat : (neZ Z)[a]? = some (none, Z[a].map PyData.int) := by
    unfold neZ
    rw [List.getElem?_map, List.getElem?_eq_getElem ham]; rfl
  have hix : ixN (neZ Z).length (a : Int) = some a := ixN_n (by rw [hlen]; exact ham)
  have hbig : Z.length < big := by unfold big; omega
  have hset : ∀ r' : List Int, neZ (Z.set a r') = (neZ Z).set a (none, r'.map PyData.int) := fun r' => by unfold neZ; rw [List.map_set]
  have hsnoc : ∀ r' : List Int, neZ (Z ++ [r']) = neZ Z ++ [(none, r'.map PyData.int)] := fun r' => by unfold neZ; rw [List.map_append]; rfl
  have hfset : ∀ r' : List Int, (Z.set a r').flatten.Perm (r' ++ (Z.eraseIdx a).flatten) := fun r' => by
    have h2 : Z.set a r' = Z.take a ++ r' :: Z.drop (a + 1) := List.set_eq_take_append_cons_drop.trans (if_pos ham)
    rw [h2, List.eraseIdx_eq_take_drop_succ, List.flatten_append, List.flatten_cons, List.flatten_append]
    exact (List.perm_append_comm_assoc _ _ _)
  have hfz : Z.flatten.Perm (Z[a] ++ (Z.eraseIdx a).flatten) := by
    have := hfset Z[a]
    rwa [List.set_getElem_self] at this
  have herl : (Z.eraseIdx a).flatten.length + Z[a].length = n := by
    have := hfz.length_eq
    rw [List.length_append, hfn] at this
    omega
  have fin : ∀ (L : List (List Int)), (∃ b : Bool, b = true) → L.flatten.length ≤ 1000 → L.length ≤ 1000 → (¬ EachI L.flatten ∨ [] ∈ L) → fn__law_spoilt [.list (rowsM qs), .int (n : Int), .int (w : Int), .int c] = .ok (.own (.lst (rowsZ L))) →
      ∃ L : List (List Int), fn__law_spoilt [.list (rowsM qs), .int (n : Int), .int (w : Int), .int c] = .ok (.own (.lst (rowsZ L))) ∧ (¬ EachI L.flatten ∨ [] ∈ L) ∧ L.flatten.length ≤ 1000 ∧ L.length ≤ 1000 := fun L _ h1 h2 h3 h4 => ⟨L, h4, h3, h1, h2⟩
  have hcase : w = 0 ∨ w = 1 ∨ w = 2 ∨ w = 3 ∨ w = 4 ∨ w = 5 ∨ w = 6 := by omega
  rcases hcase with rfl | rfl | rfl | rfl | rfl | rfl | rfl
  · refine fin (Z.take a ++ [[]] ++ Z.drop a) ⟨true, rfl⟩ ?_ ?_ (.inr (by simp)) ?_
    · have e : (Z.take a ++ [[]] ++ Z.drop a).flatten = Z.flatten := by
        rw [List.flatten_append, List.flatten_append]
        simp only [List.flatten_cons, List.flatten_nil, List.append_nil]
        rw [← List.flatten_append, List.take_append_drop]
      rw [e, hfn]; omega
    · simp; omega
    · have hL : neZ (Z.take a ++ [[]] ++ Z.drop a) = (neZ Z).take a ++ [(none, [])] ++ (neZ Z).drop a := by simp [neZ]
      have hpl := plain_neZ (Z.take a ++ [[]] ++ Z.drop a)
      generalize rowsZ (Z.take a ++ [[]] ++ Z.drop a) = RZ at *
      generalize neZ (Z.take a ++ [[]] ++ Z.drop a) = NL at *
      have p0 : ∀ R : List D, mNins 4 (mA1 (mVar 5) (mA1 (mLst mA0) mA0)) [.val (.list R), .val (.int (n : Int)), .val (.int 0), .val (.int c), .nst false (neZ Z), .val (.int (a : Int)), .val (.int f), .un] = .ok (.val .none) [.val (.list R), .val (.int (n : Int)), .val (.int 0), .val (.int c), .nst false NL, .val (.int (a : Int)), .val (.int f), .un] := fun R => by
        rw [hL]
        have : a ≤ (neZ Z).length := by rw [hlen]; omega
        have hb2 : (neZ Z).length < big := by rw [hlen]; exact hbig
        generalize neZ Z = N at *
        simp [lstF, this, hb2]
      have p0' := p0 (rowsM qs)
      generalize neZ Z = N at *
      generalize rowsM qs = R at *
      simp [fn__law_spoilt, runDef, m__law_spoilt, hit, hXS, hqm, hlen, hm0, ha, hpow, hP0, hf, l60, p0', hpl, Slot.free, -e_nins]
  · -- a box told twice in one ring
    have hx : Z[a][0] ∈ Z[a] := List.getElem_mem hr0
    have hper := hfset (Z[a] ++ [Z[a][0]])
    have hat0 : atI (Z[a].map PyData.int) 0 = some (.int Z[a][0]) := by
      have := atI_get' (as := Z[a].map PyData.int) (j := 0) (by rw [List.length_map]; exact hr0)
      rw [show ((0 : Nat) : Int) = 0 from rfl] at this
      rw [this, List.getElem_map]
    refine fin (Z.set a (Z[a] ++ [Z[a][0]])) ⟨true, rfl⟩ ?_ ?_ (.inl fun h => ?_) ?_
    · rw [hper.length_eq, List.length_append, List.length_append, List.length_singleton]; omega
    · rw [List.length_set]; omega
    · have h2 := hper.nodup_iff.mp h.nodup
      have h3 := (List.nodup_append.mp (List.nodup_append.mp h2).1).2.2 _ hx Z[a][0] (by simp)
      exact h3 rfl
    · have hL := hset (Z[a] ++ [Z[a][0]])
      rw [List.map_append] at hL
      have hpl := plain_neZ (Z.set a (Z[a] ++ [Z[a][0]]))
      have hds : (Z[a].map PyData.int).length < big := by rw [List.length_map]; unfold big; omega
      generalize rowsZ (Z.set a (Z[a] ++ [Z[a][0]])) = RZ at *
      generalize neZ (Z.set a (Z[a] ++ [Z[a][0]])) = NL at *
      have p0 : ∀ R : List D, mNapp0 4 5 0 [.val (.list R), .val (.int (n : Int)), .val (.int 1), .val (.int c), .nst false (neZ Z), .val (.int (a : Int)), .val (.int f), .un] = .ok (.val .none) [.val (.list R), .val (.int (n : Int)), .val (.int 1), .val (.int c), .nst false NL, .val (.int (a : Int)), .val (.int f), .un] := fun R => by
        rw [hL]
        generalize Z[a].map PyData.int = ds at *
        generalize neZ Z = N at *
        simp [hix, hat, hat0, hds]
      have p0' := p0 (rowsM qs)
      generalize neZ Z = N at *
      generalize rowsM qs = R at *
      simp [fn__law_spoilt, runDef, m__law_spoilt, hit, hXS, hqm, hlen, hm0, ha, hpow, hP0, hf, l60, p0', hpl, Slot.free, -e_napp0]
  · -- a box told in two rings
    have hn0 : (0 : Int) < (n : Int) := by omega
    have hv0 := Int.emod_nonneg (c / 60) (show (n : Int) ≠ 0 by omega)
    have hv1 := Int.emod_lt_of_pos (c / 60) hn0
    generalize hvv : c / 60 % (n : Int) = v at *
    have hv := hmem v hv0 hv1
    have efl : (Z ++ [[v]]).flatten = Z.flatten ++ [v] := by simp
    refine fin (Z ++ [[v]]) ⟨true, rfl⟩ ?_ ?_ (.inl fun h => ?_) ?_
    · rw [efl, List.length_append, hfn, List.length_singleton]; omega
    · rw [List.length_append, List.length_singleton]; omega
    · have h2 := h.nodup
      rw [efl] at h2
      exact (List.nodup_append.mp h2).2.2 v hv v (by simp) rfl
    · have hL := hsnoc [v]
      have hpl := plain_neZ (Z ++ [[v]])
      have hb2 : (neZ Z).length < big := by rw [hlen]; exact hbig
      generalize rowsZ (Z ++ [[v]]) = RZ at *
      generalize neZ (Z ++ [[v]]) = NL at *
      have p0 : ∀ R : List D, mNpushL 4 (mA1 (mLst (mA1 (m2 modF (m2 divF (mVar 3) (mD (.int 60))) (mVar 1)) mA0)) mA0) [.val (.list R), .val (.int (n : Int)), .val (.int 2), .val (.int c), .nst false (neZ Z), .val (.int (a : Int)), .val (.int f), .un] = .ok (.val .none) [.val (.list R), .val (.int (n : Int)), .val (.int 2), .val (.int c), .nst false NL, .val (.int (a : Int)), .val (.int f), .un] := fun R => by
        rw [hL]
        generalize neZ Z = N at *
        generalize (n : Int) = nn at *
        simp [lstF, hb2, l60, hn0, hvv]
      have p0' := p0 (rowsM qs)
      generalize neZ Z = N at *
      generalize rowsM qs = R at *
      simp [fn__law_spoilt, runDef, m__law_spoilt, hit, hXS, hqm, hlen, hm0, ha, hpow, hP0, hf, l60, p0', hpl, Slot.free, -e_npushL]
  · -- a box beyond
    have hper := hfset (Z[a].set 0 ((n : Int) + f))
    have hx : (n : Int) + f ∈ Z[a].set 0 ((n : Int) + f) := List.mem_iff_getElem.mpr ⟨0, by rw [List.length_set]; exact hr0, by simp⟩
    have hl2 : (Z.set a (Z[a].set 0 ((n : Int) + f))).flatten.length = n := by rw [hper.length_eq, List.length_append, List.length_set]; omega
    have hix0 : ixN (Z[a].map PyData.int).length 0 = some 0 := by
      have := ixN_n (n := (Z[a].map PyData.int).length) (i := 0) (by rw [List.length_map]; exact hr0)
      exact this
    refine fin (Z.set a (Z[a].set 0 ((n : Int) + f))) ⟨true, rfl⟩ ?_ ?_ (.inl fun h => ?_) ?_
    · omega
    · rw [List.length_set]; omega
    · have := h.mem.mp (hper.mem_iff.mpr (List.mem_append_left _ hx))
      omega
    · have hL := hset (Z[a].set 0 ((n : Int) + f))
      rw [List.map_set] at hL
      have hpl := plain_neZ (Z.set a (Z[a].set 0 ((n : Int) + f)))
      generalize rowsZ (Z.set a (Z[a].set 0 ((n : Int) + f))) = RZ at *
      generalize neZ (Z.set a (Z[a].set 0 ((n : Int) + f))) = NL at *
      have p0 : ∀ R : List D, mNset 4 5 (0) (m2 addF (mVar 1) (mVar 6)) [.val (.list R), .val (.int (n : Int)), .val (.int 3), .val (.int c), .nst false (neZ Z), .val (.int (a : Int)), .val (.int f), .un] = .ok .nx [.val (.list R), .val (.int (n : Int)), .val (.int 3), .val (.int c), .nst false NL, .val (.int (a : Int)), .val (.int f), .un] := fun R => by
        rw [hL]
        generalize Z[a].map PyData.int = ds at *
        generalize neZ Z = N at *
        simp [hix, hat, hix0]
      have p0' := p0 (rowsM qs)
      generalize neZ Z = N at *
      generalize rowsM qs = R at *
      simp [fn__law_spoilt, runDef, m__law_spoilt, hit, hXS, hqm, hlen, hm0, ha, hpow, hP0, hf, l60, p0', hpl, Slot.free, -e_nset]
  · -- a box below nought
    have hper := hfset (Z[a].set (Z[a].length - 1) (-1 - f))
    have hx : (-1 - f) ∈ Z[a].set (Z[a].length - 1) (-1 - f) := List.mem_iff_getElem.mpr ⟨Z[a].length - 1, by rw [List.length_set]; omega, by simp⟩
    have hl2 : (Z.set a (Z[a].set (Z[a].length - 1) (-1 - f))).flatten.length = n := by rw [hper.length_eq, List.length_append, List.length_set]; omega
    have hix0 : ixN (Z[a].map PyData.int).length (-1) = some (Z[a].length - 1) := by
      rw [List.length_map]
      unfold ixN
      rw [if_neg (by omega), if_pos (by omega)]
      congr 1
      omega
    refine fin (Z.set a (Z[a].set (Z[a].length - 1) (-1 - f))) ⟨true, rfl⟩ ?_ ?_ (.inl fun h => ?_) ?_
    · omega
    · rw [List.length_set]; omega
    · have := h.mem.mp (hper.mem_iff.mpr (List.mem_append_left _ hx))
      omega
    · have hL := hset (Z[a].set (Z[a].length - 1) (-1 - f))
      rw [List.map_set] at hL
      have hpl := plain_neZ (Z.set a (Z[a].set (Z[a].length - 1) (-1 - f)))
      generalize rowsZ (Z.set a (Z[a].set (Z[a].length - 1) (-1 - f))) = RZ at *
      generalize neZ (Z.set a (Z[a].set (Z[a].length - 1) (-1 - f))) = NL at *
      have p0 : ∀ R : List D, mNset 4 5 (-1) (m2 subF (m1 negF (mD (.int 1))) (mVar 6)) [.val (.list R), .val (.int (n : Int)), .val (.int 4), .val (.int c), .nst false (neZ Z), .val (.int (a : Int)), .val (.int f), .un] = .ok .nx [.val (.list R), .val (.int (n : Int)), .val (.int 4), .val (.int c), .nst false NL, .val (.int (a : Int)), .val (.int f), .un] := fun R => by
        rw [hL]
        generalize Z[a].length - 1 = lst at *
        generalize Z[a].map PyData.int = ds at *
        generalize neZ Z = N at *
        simp [hix, hat, hix0]
      have p0' := p0 (rowsM qs)
      generalize neZ Z = N at *
      generalize rowsM qs = R at *
      simp [fn__law_spoilt, runDef, m__law_spoilt, hit, hXS, hqm, hlen, hm0, ha, hpow, hP0, hf, l60, p0', hpl, Slot.free, -e_nset]
  · -- a ring of a box beyond, with one left out
    have efl : (Z ++ [[(n : Int) + 1 + f]]).flatten = Z.flatten ++ [(n : Int) + 1 + f] := by simp
    refine fin (Z ++ [[(n : Int) + 1 + f]]) ⟨true, rfl⟩ ?_ ?_ (.inl fun h => ?_) ?_
    · rw [efl, List.length_append, hfn, List.length_singleton]; omega
    · rw [List.length_append, List.length_singleton]; omega
    · have h2 := h.mem (x := (n : Int) + 1 + f)
      rw [efl, List.length_append, hfn, List.length_singleton] at h2
      have := h2.mp (by simp)
      omega
    · have hL := hsnoc [(n : Int) + 1 + f]
      have hpl := plain_neZ (Z ++ [[(n : Int) + 1 + f]])
      have hb2 : (neZ Z).length < big := by rw [hlen]; exact hbig
      generalize rowsZ (Z ++ [[(n : Int) + 1 + f]]) = RZ at *
      generalize neZ (Z ++ [[(n : Int) + 1 + f]]) = NL at *
      have p0 : ∀ R : List D, mNpushL 4 (mA1 (mLst (mA1 (m2 addF (m2 addF (mVar 1) (mD (.int 1))) (mVar 6)) mA0)) mA0) [.val (.list R), .val (.int (n : Int)), .val (.int 5), .val (.int c), .nst false (neZ Z), .val (.int (a : Int)), .val (.int f), .un] = .ok (.val .none) [.val (.list R), .val (.int (n : Int)), .val (.int 5), .val (.int c), .nst false NL, .val (.int (a : Int)), .val (.int f), .un] := fun R => by
        rw [hL]
        generalize neZ Z = N at *
        generalize (n : Int) = nn at *
        simp [lstF, hb2]
      have p0' := p0 (rowsM qs)
      generalize neZ Z = N at *
      generalize rowsM qs = R at *
      simp [fn__law_spoilt, runDef, m__law_spoilt, hit, hXS, hqm, hlen, hm0, ha, hpow, hP0, hf, l60, p0', hpl, Slot.free, -e_npushL]
  · -- no ring at all
    refine fin [] ⟨true, rfl⟩ (by simp) (by simp) (.inl fun h => ?_) ?_
    · have := h.lo
      simp at this
    · have e0 : rowsZ [] = [] := rfl
      rw [e0]
      generalize neZ Z = N at *
      generalize rowsM qs = R at *
      simp [fn__law_spoilt, runDef, m__law_spoilt, hit, hXS, hqm, hlen, hm0, ha, hpow, hP0, hf, l60, Slot.free, lstF, plainN]

/-! ### rings told from any box on -/
theorem along_ring {o : List Nat} {n b : Nat} {r : List Nat} (R : Ring o n b r) : Along o r := ⟨R.st, fun h => by
  rw [R.cl]
  exact R.zero.symm⟩
theorem along_rot1 {N t : List Nat} {b : Nat} (h : Along N (b :: t)) : Along N (t ++ [b]) := by
  have hlast : ∀ p (hp : p < t.length), p + 1 = t.length → gat N t[p] = b := fun p hp e => by
    have hc := h.cl (by simp)
    have e2 : (b :: t).getLast (by simp) = t[p] := by
      rw [List.getLast_eq_getElem]
      have : (b :: t).length - 1 = p + 1 := by simp; omega
      simp only [this]
      rfl
    rw [e2] at hc
    exact hc
  refine ⟨fun p hp => ?_, fun hne => ?_⟩
  · rw [List.length_append, List.length_singleton] at hp
    have hp' : p < t.length := by omega
    rw [List.getElem_append_left hp']
    by_cases hq : p + 1 < t.length
    · rw [List.getElem_append_left hq]
      exact h.st (p + 1) (by simp; omega)
    · rw [List.getElem_append_right (by omega)]
      simp only [List.getElem_singleton]
      exact hlast p hp' (by omega)
  · rw [List.getLast_append_of_ne_nil _ (by simp), List.getLast_singleton]
    cases t with
    | nil => exact h.cl (by simp)
    | cons c t => exact h.st 0 (by simp)
theorem along_rot {N r : List Nat} (h : Along N r) : ∀ k, k ≤ r.length → Along N (r.drop k ++ r.take k)
  | 0, _ => by simpa using h
  | k + 1, hk => by
    have ih := along_rot h k (by omega)
    have hk' : k < r.length := by omega
    rw [List.drop_eq_getElem_cons hk', List.cons_append] at ih
    have := along_rot1 ih
    rw [List.take_succ, List.getElem?_eq_getElem hk']
    rw [List.append_assoc] at this
    exact this
theorem along_uniq {N o : List Nat} {n : Nat} {rs : List (List Nat)} (hN : IsOrd N n) (hO : IsOrd o n) (hp : rs.flatten.Perm (List.range n)) (h1 : ∀ r ∈ rs, Along N r) (h2 : ∀ r ∈ rs, Along o r) : N = o := by
  refine List.ext_getElem (by rw [hN.len, hO.len]) fun x hx hx2 => ?_
  have hxn : x < n := by rw [← hN.len]; exact hx
  obtain ⟨r, hr, hxr⟩ := List.mem_flatten.mp (hp.mem_iff.mpr (List.mem_range.mpr hxn))
  rw [← gat_eq hx, ← gat_eq hx2]
  obtain ⟨p, hpl, rfl⟩ := List.getElem_of_mem hxr
  by_cases hl : p + 1 < r.length
  · rw [(h1 r hr).st p hl, (h2 r hr).st p hl]
  · have hne : r ≠ [] := List.length_pos_iff.mp (by omega)
    have e : r.getLast hne = r[p] := by
      rw [List.getLast_eq_getElem]
      have : r.length - 1 = p := by omega
      simp only [this]
    have a1 := (h1 r hr).cl hne
    have a2 := (h2 r hr).cl hne
    rw [e] at a1 a2
    rw [a1, a2]
structure Told (o : List Nat) (rs : List (List Nat)) (qs : List (Bool × List Nat)) : Prop where
  len : qs.length = rs.length
  perm : (qs.map Prod.snd).flatten.Perm rs.flatten
  along : ∀ q ∈ qs, Along o q.2
  ne : ∀ q ∈ qs, q.2 ≠ []
theorem sp_told {o : List Nat} {n : Nat} {rs : List (List Nat)} (F : Found o n n rs) (hn : n ≤ 60) (c : Int) : ∃ qs, Told o rs qs ∧ fn__law_told [.list (rowsD rs), .int c] = .ok (.own (.lst (rowsM qs))) := by
  have hrl := F.len_le
  obtain ⟨E', e, c', qs, s3, s4, s5, h3, h4, h5, hT, rfl⟩ := for_map (g := mStore 3) (b := bd__law_told_1) (mi := mIt (mVar 0)) (f := fun r : List Nat => PyData.tuple (r.map nt)) (as := rs)
    (E := [.val (.list (rowsD rs)), .val (.int c), .own (.lst []), .un, .un, .un]) (E1 := [.val (.list (rowsD rs)), .val (.int c), .own (.lst []), .un, .un, .un])
    (by
      rw [show (rs.map fun r : List Nat => PyData.tuple (r.map nt)) = rowsD rs from rfl]
      generalize rowsD rs = R at *
      simp)
    (fun i E => ∃ (c : Int) (qs : List (Bool × List Nat)) (s3 s4 s5 : MP.Slot), s3.free = true ∧ s4.free = true ∧ s5.free = true ∧ Told o (rs.take i) qs ∧ E = [.val (.list (rowsD rs)), .val (.int c), .own (.lst (rowsM qs)), s3, s4, s5]) ⟨c, [], .un, .un, .un, rfl, rfl, rfl, ⟨by simp, by simp, by simp, by simp⟩, rfl⟩
    (fun i hi E ⟨c, qs, s3, s4, s5, h3, h4, h5, hT, hE⟩ => by
      subst hE
      obtain ⟨b, hR, hbn, _⟩ := F.ring _ (List.getElem_mem hi)
      have hal := along_ring hR
      have hr0 : 0 < rs[i].length := hR.pos
      have hrn : rs[i].length ≤ n := hR.len
      have htk : rs.take (i + 1) = rs.take i ++ [rs[i]] := by rw [List.take_succ, List.getElem?_eq_getElem hi]; rfl
      have hql := hT.len
      rw [List.length_take] at hql
      generalize rs[i] = r at *
      obtain ⟨a, ha⟩ := Int.eq_ofNat_of_zero_le (Int.emod_nonneg c (show (r.length : Int) ≠ 0 by omega))
      have har : a < r.length := by
        have := Int.emod_lt_of_pos c (show (0 : Int) < (r.length : Int) by omega)
        omega
      have hk := divOk (j := (r.length : Int)) (by omega) (by omega)
      have hlenr : lenF [.tuple (r.map nt)] = some (.val (.int (r.length : Int))) := by rw [f_lenT, List.length_map]
      have s1 : slF (.tuple (r.map nt)) (some (a : Int)) none = some (.val (.tuple ((r.drop a).map nt))) := by
        rw [f_slT, cut_from, List.map_drop]
      have s2 : slF (.tuple (r.map nt)) none (some (a : Int)) = some (.val (.tuple ((r.take a).map nt))) := by
        rw [f_slT, cut_to, List.map_take]
      have s3' : addF (.tuple ((r.drop a).map nt)) (.tuple ((r.take a).map nt)) = some (.val (.tuple ((r.drop a ++ r.take a).map nt))) := by
        rw [f_addT, ok_pos (by rw [List.length_map, List.length_map, List.length_drop, List.length_take]; unfold big; omega), List.map_append]
      have hrot := along_rot hal a (by omega)
      have hrp : (r.drop a ++ r.take a).Perm r := List.perm_append_comm.trans (by rw [List.take_append_drop])
      generalize hrr : r.drop a ++ r.take a = r' at *
      have hne' : r' ≠ [] := fun z => by
        have := hrp.length_eq
        rw [z] at this
        simp at this; omega
      -- the part, a list or a tuple
      have hc2 : c / (r.length : Int) % 2 = 1 ∨ ¬ c / (r.length : Int) % 2 = 1 := by omega
      generalize hcc : c / (r.length : Int) = c2 at *
      have hq0 : (0 : Int) < (qs.length : Int) + 1 := by omega
      obtain ⟨p, hp⟩ := Int.eq_ofNat_of_zero_le (Int.emod_nonneg (c2 / 2) (show (qs.length : Int) + 1 ≠ 0 by omega))
      have hpq : p ≤ qs.length := by
        have := Int.emod_lt_of_pos (c2 / 2) hq0
        omega
      have hql2 : (rowsM qs).length = qs.length := by unfold rowsM; rw [List.length_map]
      have hlq : lenF [.list (rowsM qs)] = some (.val (.int (qs.length : Int))) := by rw [f_lenL, hql2]
      have hins : ∀ b : Bool, insF (rowsM qs) [.int (p : Int), seqD b (r'.map nt)] = some (rowsM (qs.take p ++ [(b, r')] ++ qs.drop p), .none) := fun b => by
        unfold insF
        simp only
        rw [ok_pos ⟨by rw [hql2]; unfold big; omega, by omega, by omega⟩]
        simp [rowsM, List.map_take, List.map_drop]
      have hlq2 : ∀ b : Bool, lenF [.list (rowsM (qs.take p ++ [(b, r')] ++ qs.drop p))] = some (.val (.int ((qs.length : Int) + 1))) := fun b => by
        rw [f_lenL]
        unfold rowsM
        rw [List.length_map]
        congr 3
        simp
        omega
      have hk2 := divOk (j := (qs.length : Int) + 1) (by omega) (by omega)
      have l2 : Nat.log2 2 < 9000 := by decide
      have told : ∀ b : Bool, Told o (rs.take (i + 1)) (qs.take p ++ [(b, r')] ++ qs.drop p) := fun b => by
        have hper : (qs.take p ++ [(b, r')] ++ qs.drop p).Perm ((b, r') :: qs) := by
          rw [List.append_assoc]
          show (qs.take p ++ (b, r') :: qs.drop p).Perm _
          refine (List.perm_middle).trans ?_
          rw [List.take_append_drop]
        refine ⟨?_, ?_, fun q hq => ?_, fun q hq => ?_⟩
        · rw [hper.length_eq, List.length_cons, List.length_take]; omega
        · rw [htk, List.flatten_append]
          refine ((hper.map Prod.snd).flatten).trans ?_
          rw [List.map_cons, List.flatten_cons]
          refine (List.Perm.append hrp hT.perm).trans ?_
          simp only [List.flatten_cons, List.flatten_nil, List.append_nil]
          exact List.perm_append_comm
        · rcases List.mem_cons.mp (hper.mem_iff.mp hq) with rfl | hq
          · exact hrot
          · exact hT.along q hq
        · rcases List.mem_cons.mp (hper.mem_iff.mp hq) with rfl | hq
          · exact hne'
          · exact hT.ne q hq
      have hpT : pureAll (r'.map nt) = true := p_nats _
      rcases hc2 with hc2 | hc2
      · have i1 := hins true
        have i2 := hlq2 true
        refine ⟨[.val (.list (rowsD rs)), .val (.int c), .own (.lst (rowsM qs)), .val (.tuple (r.map nt)), s4, s5], [.val (.list (rowsD rs)), .val (.int (c2 / 2 / ((qs.length : Int) + 1))), .own (.lst (rowsM (qs.take p ++ [(true, r')] ++ qs.drop p))), .val (.tuple (r.map nt)), .val (.int (a : Int)), .val (.list (r'.map nt))], ?_, .inl ?_, _, _, _, _, _, rfl, rfl, rfl, told true, rfl⟩
        · generalize rowsM qs = Q
          generalize rowsD rs = R
          generalize r.map nt = A
          simp [h3]
        · have i1' : insF (rowsM qs) [.int (p : Int), .list (r'.map nt)] = some (rowsM (qs.take p ++ [(true, r')] ++ qs.drop p), .none) := i1
          generalize rowsM (qs.take p ++ [(true, r')] ++ qs.drop p) = Q2 at *
          generalize rowsM qs = Q at *
          generalize rowsD rs = R at *
          generalize (r.drop a).map nt = A1 at *
          generalize (r.take a).map nt = A2 at *
          generalize r'.map nt = A' at *
          generalize r.map nt = A at *
          generalize (r.length : Int) = rl at *
          generalize (qs.length : Int) = ql at *
          simp [bd__law_told_1, hlenr, hk, ha, hcc, s1, s2, s3', hc2, hp, hlq, hq0, i1', i2, hk2, l2, h4, h5, -f_slT, -f_addT, -f_lenT, -f_lenL]
      · have i1 := hins false
        have i2 := hlq2 false
        refine ⟨[.val (.list (rowsD rs)), .val (.int c), .own (.lst (rowsM qs)), .val (.tuple (r.map nt)), s4, s5], [.val (.list (rowsD rs)), .val (.int (c2 / 2 / ((qs.length : Int) + 1))), .own (.lst (rowsM (qs.take p ++ [(false, r')] ++ qs.drop p))), .val (.tuple (r.map nt)), .val (.int (a : Int)), .val (.tuple (r'.map nt))], ?_, .inl ?_, _, _, _, _, _, rfl, rfl, rfl, told false, rfl⟩
        · generalize rowsM qs = Q
          generalize rowsD rs = R
          generalize r.map nt = A
          simp [h3]
        · have i1' : insF (rowsM qs) [.int (p : Int), .tuple (r'.map nt)] = some (rowsM (qs.take p ++ [(false, r')] ++ qs.drop p), .none) := i1
          generalize rowsM (qs.take p ++ [(false, r')] ++ qs.drop p) = Q2 at *
          generalize rowsM qs = Q at *
          generalize rowsD rs = R at *
          generalize (r.drop a).map nt = A1 at *
          generalize (r.take a).map nt = A2 at *
          generalize r'.map nt = A' at *
          generalize r.map nt = A at *
          generalize (r.length : Int) = rl at *
          generalize (qs.length : Int) = ql at *
          simp [bd__law_told_1, hlenr, hk, ha, hcc, s1, s2, s3', hc2, hp, hlq, hq0, i1', i2, hk2, l2, h4, h5, -f_slT, -f_addT, -f_lenT, -f_lenL])
  rw [List.take_length] at hT
  have e' : lp__law_told_1 [.val (.list (rowsD rs)), .val (.int c), .own (.lst []), .un, .un, .un] = _ := e
  refine ⟨qs, hT, ?_⟩
  generalize rowsM qs = Q at *
  generalize rowsD rs = R at *
  simp [fn__law_told, runDef, m__law_told, lstF, e']

/-! ### the common helpers -/
def cellAt (ns : List Int) (k : Nat) : Int := ns.getD k 0
theorem sp_cell_at (ns : List Int) (k : Nat) : fn__law_cell_at [.list (ns.map PyData.int), .int (k : Int)] = .ok (.val (.int (cellAt ns k))) := by
  by_cases h : k < ns.length
  · simp [fn__law_cell_at, runDef, m__law_cell_at, h, atI_map, atI_get', cellAt]
  · simp [fn__law_cell_at, runDef, m__law_cell_at, h, cellAt]
theorem sp_cell_at0 (ns : List Int) : fn__law_cell_at [.list (ns.map PyData.int), .int 0] = .ok (.val (.int (cellAt ns 0))) := sp_cell_at ns 0

theorem sp_whole (i : Int) : fn__law_whole [.int i] = .ok (.val (.bool true)) := by
  simp [fn__law_whole, runDef, m__law_whole]

theorem sp_many (ns : List Int) : ∃ m : Nat, 1 ≤ m ∧ m ≤ 60 ∧ fn__law_many [.list (ns.map PyData.int)] = .ok (.val (.int (m : Int))) := by
  have h0 := sp_cell_at0 ns
  generalize cellAt ns 0 = c at h0
  have key : ∃ m : Nat, 1 ≤ m ∧ m ≤ 60 ∧ ∃ d, atI [PyData.int (c / 4 % 8), .int (c / 4 % 8), .int (c / 4 % 20), .int (c / 4 % 60)] (c % 4) = some (.int d) ∧ 1 + d = (m : Int) := by
    have h4 : c % 4 = 0 ∨ c % 4 = 1 ∨ c % 4 = 2 ∨ c % 4 = 3 := by omega
    rcases h4 with h | h | h | h <;> rw [h]
    · exact ⟨(1 + c / 4 % 8).toNat, by omega, by omega, _, rfl, by omega⟩
    · exact ⟨(1 + c / 4 % 8).toNat, by omega, by omega, _, rfl, by omega⟩
    · exact ⟨(1 + c / 4 % 20).toNat, by omega, by omega, _, rfl, by omega⟩
    · exact ⟨(1 + c / 4 % 60).toNat, by omega, by omega, _, rfl, by omega⟩
  obtain ⟨m, h1, h2, d, h3, h4⟩ := key
  refine ⟨m, h1, h2, ?_⟩
  have l4 : Nat.log2 4 < 9000 := by decide
  simp [fn__law_many, runDef, m__law_many, h0, lstF, h3, l4, h4]

theorem sp_all (ns : List Int) : ∃ t : Int, fn__law_all [.list (ns.map PyData.int)] = .ok (.val (.int t)) := by
  obtain ⟨E', e, t, s, hs, rfl⟩ := for_map (g := mStore 2) (b := bd__law_all_1) (mi := mIt (mVar 0)) (E := [.val (.list (ns.map PyData.int)), .val (.int 0), .un]) (E1 := [.val (.list (ns.map PyData.int)), .val (.int 0), .un]) (f := PyData.int) (as := ns) (by simp)
    (fun _ E => ∃ (t : Int) (s : Slot), s.free = true ∧ E = [.val (.list (ns.map PyData.int)), .val (.int t), s]) ⟨0, .un, rfl, rfl⟩
    (fun i hi E ⟨t, s, hs, hE⟩ => by
      subst hE
      exact ⟨_, [.val (.list (ns.map PyData.int)), .val (.int (t * 1000 + ns[i])), .val (.int ns[i])], by simp [hs]; rfl, .inl (by simp [bd__law_all_1]), _, _, rfl, rfl⟩)
  have e' : lp__law_all_1 [.val (.list (ns.map PyData.int)), .val (.int 0), .un] = _ := e
  exact ⟨t, by simp [fn__law_all, runDef, m__law_all, e']⟩

theorem sp_is_order {o : List Nat} {n : Nat} (O : IsOrd o n) (hn : n ≤ 1000) : fn__law_is_order [.tuple (o.map nt), .int (n : Int)] = .ok (.val (.bool true)) := by
  have hl : (o.map nt).length = n := by rw [List.length_map, O.len]
  have hol := O.len
  have hlc : lc__law_is_order_1 [.val (.tuple (o.map nt)), .val (.int (n : Int)), .un] = .ok (.own (.lst (o.map fun _ => PyData.bool true))) [.val (.tuple (o.map nt)), .val (.int (n : Int)), .un] :=
    lc_map (j := 2) (f := nt) (as := o) (fun _ => .bool true) (by simp) rfl (by omega) fun a ha => ⟨.val (.bool true), by simp [el__law_is_order_1, nt, sp_whole], rfl⟩
  have hall : allF [.list (o.map fun _ => PyData.bool true)] = some (.val (.bool true)) := by
    have : (o.map fun _ => PyData.bool true) = (o.map fun _ => true).map PyData.bool := by rw [List.map_map]; rfl
    rw [this, f_allL]
    simp
  have hs := f_sortedTN o
  rw [sortN_range O] at hs
  have hr := f_lrg1N (n := n) (by omega)
  have he := f_eqLN (List.range n) (List.range n)
  rw [decide_eq_true rfl] at he
  have hp : pureAll ((List.range n).map nt) = true := p_nats _
  generalize (o.map fun _ => PyData.bool true) = T at *
  generalize (List.range n).map nt = R at *
  generalize o.map nt = A at *
  simp [fn__law_is_order, runDef, m__law_is_order, hl, hlc, hall, hs, hr, he, hp]

theorem lay_rows : Lay (fun r : List Nat => PyData.list (r.map nt)) 1 := by
  have := Lay.list Lay.int
  refine ⟨fun r => ?_, fun r => ?_, fun x y => ?_⟩
  · have := this.lay (r.map fun x : Nat => (x : Int)); rw [List.map_map] at this; exact this
  · have := this.dep (r.map fun x : Nat => (x : Int)); rw [List.map_map] at this; exact this
  · have h := this.eq (x.map fun x : Nat => (x : Int)) (y.map fun x : Nat => (x : Int))
    rw [List.map_map, List.map_map] at h
    refine Eq.trans h ?_
    by_cases e : x = y
    · subst e; simp
    · have : ¬ x.map (fun x : Nat => (x : Int)) = y.map fun x : Nat => (x : Int) := fun z => e ((List.map_inj_right (fun a b h => by omega)).mp z)
      rw [decide_eq_false this, decide_eq_false e]

theorem lrings_eq (rs : List (List Nat)) : neF (.list (rs.map fun r => PyData.list (r.map nt))) (.list (rs.map fun r => PyData.list (r.map nt))) = some (.val (.bool false)) := by
  rw [ne_list lay_rows (by decide)]
  simp
theorem sq_list (b : Bool) (ds : List D) : listF [seqD b ds] = some (.own (.lst ds)) := by cases b <;> rfl
theorem law_true (ns : List Int) (hl : ns.length ≤ 63) : fn_law [.list (ns.map PyData.int)] = .ok (.val (.bool true)) := by
  obtain ⟨n, h1, hn, e1⟩ := sp_many ns
  obtain ⟨c, e2⟩ := sp_all ns
  obtain ⟨o, O, e3⟩ := sp_order c n (by omega)
  obtain ⟨rs, F, e4⟩ := sp_law_rings O (by omega)
  obtain ⟨qs, hT, e5⟩ := sp_told F hn (c / 3)
  have l3 : Nat.log2 3 < 9000 := by decide
  have l7 : Nat.log2 7 < 9000 := by decide
  have hK : RingsAny n (qs.map Prod.snd) := ⟨fun r hr => by
    obtain ⟨q, hq, rfl⟩ := List.mem_map.mp hr
    have := hT.ne q hq
    cases e : q.2 with
    | nil => exact absurd e this
    | cons b t => exact ⟨b, t, rfl, trivial⟩, hT.perm.trans F.perm⟩
  obtain ⟨N, ON, hN, e6⟩ := sp_order_byM rfl hK h1 hn
  have hNo : N = o := along_uniq ON O hK.perm hN fun r hr => by
    obtain ⟨q, hq, rfl⟩ := List.mem_map.mp hr
    exact hT.along q hq
  subst hNo
  have e7 := sp_is_order O (by omega)
  have hne : neF (.tuple (N.map nt)) (.tuple (N.map nt)) = some (.val (.bool false)) := by rw [f_neTN]; simp
  have hql : qs.length ≤ 1000 := by have := hT.len; have := F.len_le; omega
  -- the rings as lists
  have hcomp : ∀ (lc el : M Ret), lc = mLc [8] (st1 8) (mIt (mVar 4)) mYes el → el = mN listF (mA1 (mVar 8) mA0) → ∀ s5 s6 s7 : MP.Slot, lc [.val (.list (ns.map PyData.int)), .val (.int (n : Int)), .val (.int c), .val (.tuple (N.map nt)), .own (.lst (rowsM qs)), s5, s6, s7, .un] = .ok (.own (.lst ((qs.map Prod.snd).map fun r => PyData.list (r.map nt)))) [.val (.list (ns.map PyData.int)), .val (.int (n : Int)), .val (.int c), .val (.tuple (N.map nt)), .own (.lst (rowsM qs)), s5, s6, s7, .un] := fun lc el h h' s5 s6 s7 => by
    subst h h'
    rw [List.map_map]
    refine lc_mapOwn (j := 8) (k := 4) (f := fun q : Bool × List Nat => seqD q.1 (q.2.map nt)) (as := qs) (ds := rowsM qs) (fun q => PyData.list (q.2.map nt)) ?_ rfl rfl (by omega) fun q hq => ⟨.own (.lst (q.2.map nt)), ?_, rfl⟩
    · rw [show (qs.map fun q : Bool × List Nat => seqD q.1 (q.2.map nt)) = rowsM qs from rfl]
      generalize rowsM qs = R
      generalize N.map nt = A
      generalize ns.map PyData.int = S
      simp
    · have := sq_list q.1 (q.2.map nt)
      generalize rowsM qs = R
      generalize N.map nt = A
      generalize ns.map PyData.int = S
      generalize seqD q.1 (q.2.map nt) = B at *
      generalize q.2.map nt = B2 at *
      cases hpd : pureAll B2 <;> simp [this, hpd]
  have hc1 := fun s5 s6 s7 => hcomp lc_law_1 el_law_1 rfl rfl s5 s6 s7
  have hc2 := fun s5 s6 s7 => hcomp lc_law_2 el_law_2 rfl rfl s5 s6 s7
  have hneq := lrings_eq (qs.map Prod.snd)
  have hpN : pureAll (N.map nt) = true := p_nats N
  -- the seven ways
  have key : ∀ (B : D), ∃ (s4 s7 : MP.Slot), lp_law_1 [.val (.list (ns.map PyData.int)), .val (.int (n : Int)), .val (.int c), .val (.tuple (N.map nt)), .own (.lst (rowsM qs)), .own (.lst ((qs.map Prod.snd).map fun r => PyData.list (r.map nt))), .val (.tuple (N.map nt)), .un, .un] = .ok .nx [.val (.list (ns.map PyData.int)), .val (.int (n : Int)), .val (.int c), .val (.tuple (N.map nt)), s4, .own (.lst ((qs.map Prod.snd).map fun r => PyData.list (r.map nt))), .val (.tuple (N.map nt)), s7, .un] := fun _ => by
    obtain ⟨E', e, s4, s7, h4, h7, rfl⟩ := for_rng (g := mStore 7) (b := bd_law_1) (mi := mRng rng1F (mA1 (mD (.int 7)) mA0)) (n := 7)
      (E := [.val (.list (ns.map PyData.int)), .val (.int (n : Int)), .val (.int c), .val (.tuple (N.map nt)), .own (.lst (rowsM qs)), .own (.lst ((qs.map Prod.snd).map fun r => PyData.list (r.map nt))), .val (.tuple (N.map nt)), .un, .un]) (E1 := [.val (.list (ns.map PyData.int)), .val (.int (n : Int)), .val (.int c), .val (.tuple (N.map nt)), .own (.lst (rowsM qs)), .own (.lst ((qs.map Prod.snd).map fun r => PyData.list (r.map nt))), .val (.tuple (N.map nt)), .un, .un])
      (by
        have hr := f_rng1N (show 7 ≤ 1000000 by omega)
        rw [show ((7 : Nat) : Int) = 7 from rfl] at hr
        generalize (List.range 7).map nt = RR at *
        generalize (qs.map Prod.snd).map (fun r => PyData.list (r.map nt)) = H
        generalize rowsM qs = R
        generalize N.map nt = A
        generalize ns.map PyData.int = S
        simp [hr])
      (fun i E => ∃ s4 s7 : MP.Slot, (s4 = .own (.lst (rowsM qs)) ∨ s4 = .val (.list (rowsM qs))) ∧ s7.free = true ∧ E = [.val (.list (ns.map PyData.int)), .val (.int (n : Int)), .val (.int c), .val (.tuple (N.map nt)), s4, .own (.lst ((qs.map Prod.snd).map fun r => PyData.list (r.map nt))), .val (.tuple (N.map nt)), s7, .un]) ⟨.own (.lst (rowsM qs)), .un, .inl rfl, rfl, rfl⟩
      (fun i hi E ⟨s4, s7, h4, h7, hE⟩ => by
        subst hE
        have hi7 : i < 7 := by simpa using hi
        obtain ⟨L, e8, hb, g1, g2⟩ := sp_spoilt rfl hK h1 hn hi7 (c / 7)
        have e9 := sp_refused hb g1 g2
        have hst : ∀ s4 : MP.Slot, mStore 7 (.val (.int (i : Int))) [.val (.list (ns.map PyData.int)), .val (.int (n : Int)), .val (.int c), .val (.tuple (N.map nt)), s4, .own (.lst ((qs.map Prod.snd).map fun r => PyData.list (r.map nt))), .val (.tuple (N.map nt)), s7, .un] = some [.val (.list (ns.map PyData.int)), .val (.int (n : Int)), .val (.int c), .val (.tuple (N.map nt)), s4, .own (.lst ((qs.map Prod.snd).map fun r => PyData.list (r.map nt))), .val (.tuple (N.map nt)), .val (.int (i : Int)), .un] := fun s4 => by simp [h7]
        cases hpd : pureAll (rowsZ L) with
        | true =>
          refine ⟨_, [.val (.list (ns.map PyData.int)), .val (.int (n : Int)), .val (.int c), .val (.tuple (N.map nt)), s4, .own (.lst ((qs.map Prod.snd).map fun r => PyData.list (r.map nt))), .val (.tuple (N.map nt)), .val (.int (i : Int)), .un], hst s4, .inl ?_, s4, _, h4, rfl, rfl⟩
          rcases h4 with rfl | rfl
          all_goals
            generalize rowsZ L = RZ at *
            generalize (qs.map Prod.snd).map (fun r => PyData.list (r.map nt)) = H at *
            generalize rowsM qs = R at *
            generalize N.map nt = A at *
            generalize ns.map PyData.int = S at *
            simp [bd_law_1, l7, e8, e9, hpd]
        | false =>
          refine ⟨_, [.val (.list (ns.map PyData.int)), .val (.int (n : Int)), .val (.int c), .val (.tuple (N.map nt)), .val (.list (rowsM qs)), .own (.lst ((qs.map Prod.snd).map fun r => PyData.list (r.map nt))), .val (.tuple (N.map nt)), .val (.int (i : Int)), .un], hst s4, .inl ?_, _, _, .inr rfl, rfl, rfl⟩
          rcases h4 with rfl | rfl
          all_goals
            generalize rowsZ L = RZ at *
            generalize (qs.map Prod.snd).map (fun r => PyData.list (r.map nt)) = H at *
            generalize rowsM qs = R at *
            generalize N.map nt = A at *
            generalize ns.map PyData.int = S at *
            simp [bd_law_1, l7, e8, e9, hpd])
    exact ⟨s4, s7, e⟩
  obtain ⟨s4, s7, e8⟩ := key .none
  -- sixty-one boxes
  have hr61 := f_lrg1N (n := 61) (by omega)
  rw [show ((61 : Nat) : Int) = 61 from rfl] at hr61
  have e9 : fn__law_refused [.list [.list ((List.range 61).map nt)]] = .ok (.val (.bool true)) := by
    have := sp_refused (L := [rngI 61]) (.inl fun h => by
      have := h.hi
      simp [rngI_len] at this) (by simp [rngI_len]) (by simp)
    rw [show rowsZ [rngI 61] = [.list ((List.range 61).map nt)] by rw [toI]; rfl] at this
    exact this
  generalize (List.range 61).map nt = R61 at *
  generalize hH : (qs.map Prod.snd).map (fun r => PyData.list (r.map nt)) = H at *
  generalize rowsM qs = R at *
  generalize rowsD rs = RD at *
  generalize N.map nt = A at *
  generalize ns.map PyData.int = S at *
  cases hp1 : pureAll R <;> cases hp2 : pureAll RD <;> simp [fn_law, runDef, m_law, e1, e2, e3, e4, e5, e6, e7, l3, hne, hc1, hc2, hneq, hpN, e8, hr61, e9, lstF, hp1, hp2]

end L_k03
open PySem PySem.W PyProof.Rows
set_option maxHeartbeats 0 in
theorem PySem.Challenge.cw_ownboxes_k03_orders_by_rings_holds : PySem.Challenge.rw_ownboxes_k03_orders_by_rings.Holds := by
  w_on; o_law; k_head; (case hw => w_witness2)
  k_fill
  refine L2.walk_of (l := PySem.Challenge.rw_ownboxes_k03_orders_by_rings) (n := 63) (k := 4) (x := "script") (CX := fun w => L2.CX PySem.Challenge.rw_ownboxes_k03_orders_by_rings.prog w) (sp := fun w => MP.spOk _ [] L_k03.fn_law) rfl (by decide) rfl ⟨rfl, by decide, by decide⟩ (fun w h Y => PySem.W.kIn_of Y) ?F (fun w H a ns hl ho hS => MP.end_ok MP.tabs_nil hS (L_k03.law_true ns hl)) (fun w H s e s' h => MP.end_cx h)
  case F =>
    intro w mg fa h KX G hmg
    refine' L_k03.all_mk KX G hmg ?a0 ?l0 ?c0 ?k0 ?a1 ?l1 ?c1 ?k1 ?a2 ?l2 ?c2 ?k2 ?a3 ?l3 ?c3 ?k3 ?a4 ?l4 ?c4 ?k4 ?a5 ?l5 ?c5 ?k5 ?a6 ?l6 ?c6 ?k6 ?a7 ?l7 ?c7 ?k7 ?a8 ?l8 ?c8 ?k8 ?a9 ?l9 ?c9 ?k9 ?a10 ?l10 ?c10 ?k10 ?a11 ?l11 ?c11 ?k11 ?a12 ?l12 ?c12 ?k12 ?z0 ?z1 ?z2 ?z3 ?z4 ?z5 ?z6 ?z7 ?z8 ?z9 ?z10 ?y0 ?y1 ?y2 ?y3 ?y4 ?y5 ?yk1 ?ye1 ?ys1 ?yt1 ?yg1 ?ya1 ?yd1 ?yc1 ?ym1 ?yx1_0 ?yi1_0 ?yi1_1 ?yi1_2 ?ysp ?ytk ?yn0 ?yn1 ?yn2
    (case a0 => k_is); (case l0 => k_is); (case c0 => k_is); (case k0 => k_is); (case a1 => k_is); (case l1 => k_is); (case c1 => k_is); (case k1 => k_is); (case a2 => k_is); (case l2 => k_is); (case c2 => k_is); (case k2 => k_is); (case a3 => k_is); (case l3 => k_is); (case c3 => k_is); (case k3 => k_is); (case a4 => k_is); (case l4 => k_is); (case c4 => k_is); (case k4 => k_is); (case a5 => k_is); (case l5 => k_is); (case c5 => k_is); (case k5 => k_is); (case a6 => k_is); (case l6 => k_is); (case c6 => k_is); (case k6 => k_is); (case a7 => k_is); (case l7 => k_is); (case c7 => k_is); (case k7 => k_is); (case a8 => k_is); (case l8 => k_is); (case c8 => k_is); (case k8 => k_is); (case a9 => k_is); (case l9 => k_is); (case c9 => k_is); (case k9 => k_is); (case a10 => k_is); (case l10 => k_is); (case c10 => k_is); (case k10 => k_is); (case a11 => k_is); (case l11 => k_is); (case c11 => k_is); (case k11 => k_is); (case a12 => k_is); (case l12 => k_is); (case c12 => k_is); (case k12 => k_is); (case z0 => k_is); (case z1 => k_is); (case z2 => k_is); (case z3 => k_is); (case z4 => k_is); (case z5 => k_is); (case z6 => k_is); (case z7 => k_is); (case z8 => k_is); (case z9 => k_is); (case z10 => k_is); (case y0 => first | k_is | kernel_rfl); (case y1 => first | k_is | kernel_rfl); (case y2 => first | k_is | kernel_rfl); (case y3 => first | k_is | kernel_rfl); (case y4 => first | k_is | kernel_rfl); (case y5 => first | k_is | kernel_rfl); (case yk1 => first | k_is | kernel_rfl); (case ye1 => first | k_is | kernel_rfl); (case ys1 => first | k_is | kernel_rfl); (case yt1 => first | k_is | kernel_rfl); (case yg1 => first | k_is | kernel_rfl); (case ya1 => first | k_is | kernel_rfl); (case yd1 => first | k_is | kernel_rfl); (case yc1 => first | k_is | kernel_rfl); (case ym1 => first | k_is | kernel_rfl); (case yx1_0 => first | k_is | kernel_rfl); (case yi1_0 => first | k_is | kernel_rfl); (case yi1_1 => first | k_is | kernel_rfl); (case yi1_2 => first | k_is | kernel_rfl); (case ysp => first | k_is | kernel_rfl); (case ytk => first | k_is | kernel_rfl); (case yn0 => first | k_is | kernel_rfl); (case yn1 => first | k_is | kernel_rfl); (case yn2 => first | k_is | kernel_rfl)
