import PyProof.Rows.All
import Wide.All
import OpenK.AllK
import Wide.FinOn
import HandS.ForMost
import HandS.Exc
import HandS.TryOnly
import HandS.ExcOwn
import HandS.WordsExc
import HandS.CallSlots
import HandS.Walk
import HandS.Lambda
import HandS.Wide
import HandS.TupAny
import HandS.TupLe
import HandS.TupMul
import HandS.SortInts
import HandS.SortKw
import HandS.Conv
import HandS.IsInst
import HandS.SetFor
import HandS.More
import HandS.Rev
import KE.KTup
import HandS.Text
import HandS.EndBits
import HandS.Deep
import HandS.ExcIs
import KE.GoesMore
import PyProof.EnumMake
import PyProof.Draws
import KE.KIndexOf
import PySem.Challenge.RW_ownboxes_k40_the_plain_dealing
set_option Elab.async false
set_option linter.all false
set_option maxRecDepth 100000
set_option maxHeartbeats 1000000
set_option autoImplicit false
/-! MP: a layer of plain data over HandS: Python values as trees, local lists as owned slots, statements as functions of the slots. -/
namespace MP
open PySem PySem.Spec L2

abbrev D := PyData
/-- a condition that no whnf decides -/
def Ok (p : Prop) : Prop := p
noncomputable instance (p : Prop) : Decidable (Ok p) := Classical.propDecidable p
@[simp] theorem ok_iff (p : Prop) : Ok p ↔ p := Iff.rfl
theorem ok_pos {α : Type} {p : Prop} {a b : α} (h : p) : (if Ok p then a else b) = a := if_pos h
theorem ok_neg {α : Type} {p : Prop} {a b : α} (h : ¬ p) : (if Ok p then a else b) = b := if_neg h
/-- the refusals of the program -/
inductive EC where
  | BoxError | BadOrder | BadBox | BadOpenings | NoPerson | TooMany | NoNumber | BadPlan | NoHelp | BadGroup | BadText
  deriving DecidableEq
structure Exn where
  c : EC
  row : Option Int
/-- a function object that is made while the program runs -/
def FunO (f : Addr) (o : Obj) : HO := .ext fun h => h.get? f = some o
/-- the closure that a def was handed: its function object, its code object, the name of its code, what it has captured -/
structure Cap where
  f : Addr
  c : Addr
  q : Str
  o : Obj
  k : V ⊕ Addr
/-- the classes of refusals; the tables of code objects; the closure -/
structure Cl where
  a : EC → Addr
  T : List (Addr × Str)
  cap : Option Cap
instance : CoeFun Cl (fun _ => EC → Addr) := ⟨Cl.a⟩
/-- the heap but for the tables -/
def noT (T : List (Addr × Str)) (H : Hp) : Hp := fun p => if p ∈ T.map (·.1) then none else H p
/-- what a call leaves as it was -/
def Stp (T : List (Addr × Str)) (H H' : Hp) : Prop := Same (noT T H) H' ∧ LamX.Tabs T H'
theorem noT_sub {T : List (Addr × Str)} {H : Hp} : Same (noT T H) H := fun p o e => by
  unfold noT at e
  split at e
  · cases e
  · exact e
theorem noT_at {T : List (Addr × Str)} {H : Hp} {p : Addr} (h : p ∉ T.map (·.1)) : noT T H p = H p := if_neg h
theorem tabs_at {T : List (Addr × Str)} {H : Hp} {p : Addr} (t : LamX.Tabs T H) (h : p ∈ T.map (·.1)) : ∃ ps, H p = some (.tbl ps) := by
  obtain ⟨x, hx, rfl⟩ := List.mem_map.mp h
  obtain ⟨ps, e, _⟩ := t x hx
  exact ⟨ps, e⟩
theorem noT_no {T : List (Addr × Str)} {H : Hp} {p : Addr} {o : HO} (t : LamX.Tabs T H) (e : H p = some o) (n : ∀ ps, o ≠ .tbl ps) : p ∉ T.map (·.1) := fun h => by
  obtain ⟨ps, e2⟩ := tabs_at t h
  rw [e] at e2
  exact n ps (Option.some.inj e2)
theorem noT_none {T : List (Addr × Str)} {H H' : Hp} {p : Addr} {o : HO} (t : LamX.Tabs T H') (e : noT T H p = none) (e2 : H' p = some o) (n : ∀ ps, o ≠ .tbl ps) : H p = none := (noT_at (noT_no t e2 n)).symm.trans e
/-- the tables are good, and no data -/
def TOk (T : List (Addr × Str)) (F H : Hp) : Prop := LamX.Tabs T H ∧ ∀ p ∈ T.map (·.1), F p = none
theorem TOk.put {T : List (Addr × Str)} {F H : Hp} {p : Addr} {ho : HO} (t : TOk T F H) (n : p ∉ T.map (·.1)) : ∀ q ∈ T.map (·.1), upd F p ho q = none := fun q hq => by
  rw [upd_ne (fun z : q = p => n (by rw [← z]; exact hq))]; exact t.2 q hq
theorem TOk.new {T : List (Addr × Str)} {F H : Hp} {p : Addr} (t : TOk T F H) (n : H p = none) : p ∉ T.map (·.1) := fun h => by
  obtain ⟨ps, e⟩ := tabs_at t.1 h
  rw [n] at e; cases e
theorem noT_hf {T : List (Addr × Str)} {F0 F' H : Hp} (h1 : ∀ p ∈ T.map (·.1), F0 p = none) (h2 : ∀ p ∈ T.map (·.1), F' p = none) (h : ∀ p o, noT T H p = some o → F' p = F0 p) : ∀ p o, H p = some o → F' p = F0 p := fun p o e => by
  by_cases hp : p ∈ T.map (·.1)
  · rw [h1 p hp, h2 p hp]
  · exact h p o ((noT_at hp).trans e)
theorem Stp.refl {T : List (Addr × Str)} {H : Hp} (t : LamX.Tabs T H) : Stp T H H := ⟨noT_sub, t⟩
theorem Stp.of {T : List (Addr × Str)} {H H' : Hp} (t : LamX.Tabs T H) (e : Same H H') : Stp T H H' := ⟨L2.Same.trans noT_sub e, t.ext e⟩
/-- what may be changed -/
inductive MO where
  | lst (xs : List D)
  | dic (kvs : List (Key × D))
  | dct (kvs : List (List Key × D))
  | raw (vs : List V)
/-- what a name holds: nothing known; data; an object of its own; one that is lent by the caller; one that a loop walks; a refusal -/
inductive Slot where
  | un
  | val (d : D)
  | own (o : MO)
  | lnt (o : MO)
  | lck (o : MO)
  | exc (x : Exn)
  | fn (ds : List D)
  | nst (b : Bool) (xs : List (Option D × List D))
abbrev SEnv := List Slot
/-- what an expression gives: what stands in a slot; data; a new object -/
inductive Ret where
  | bor (i : Nat)
  | val (d : D)
  | own (o : MO)
inductive Res (α : Type) where
  | ok (a : α) (E : SEnv)
  | ex (x : Exn) (E : SEnv)
  | no
abbrev M (α : Type) := SEnv → Res α
def Res.bind {α β : Type} (r : Res α) (f : α → SEnv → Res β) : Res β := match r with
  | .ok a E => f a E
  | .ex x E => .ex x E
  | .no => .no
@[simp] theorem bind_ok {α β : Type} (a : α) (E : SEnv) (f : α → SEnv → Res β) : (Res.ok a E).bind f = f a E := rfl
@[simp] theorem bind_ex {α β : Type} (x : Exn) (E : SEnv) (f : α → SEnv → Res β) : (Res.ex x E : Res α).bind f = .ex x E := rfl
@[simp] theorem bind_no {α β : Type} (f : α → SEnv → Res β) : (Res.no : Res α).bind f = .no := rfl

/-! ### how data lies in the heap -/
theorem at_snoc {α : Type} {T : List α} {x y : α} {k : Nat} (e : (T ++ [x])[k]? = some y) : T[k]? = some y ∨ (k = T.length ∧ y = x) := by
  rcases Nat.lt_or_ge k T.length with hk | hk
  · rw [List.getElem?_append_left hk] at e; exact .inl e
  · rw [List.getElem?_append_right hk] at e
    have hk0 : k - T.length = 0 := by
      rcases Nat.lt_or_ge (k - T.length) 1 with h1 | h1
      · omega
      · rw [List.getElem?_eq_none (by simpa using h1)] at e; cases e
    rw [hk0] at e
    exact .inr ⟨by omega, (Option.some.inj e).symm⟩
/-! data; a tuple always lies tracked, and its object has no dict (k40) -/
def TupN (H : Hp) (a : Addr) (xs : List V) : Prop := ∃ ob : Obj, ob.dict = none ∧ H a = some (.frz ob (.tup xs))
theorem TupN.sq {K : PySem.W.Frag} {H : Hp} {a : Addr} {xs : List V} (h : TupN H a xs) : SqT K H a xs := let ⟨o, _, h⟩ := h; .inl (.inr ⟨o, h⟩)
theorem TupN.mono {H H' : Hp} (e : Same H H') {a : Addr} {xs : List V} (h : TupN H a xs) : TupN H' a xs := let ⟨o, n, h⟩ := h; ⟨o, n, e _ _ h⟩
theorem TupN.new {H : Hp} {a : Addr} {ob : Obj} {xs : List V} (n : ob.dict = none) : TupN (upd H a (.frz ob (.tup xs))) a xs := ⟨ob, n, upd_same⟩
mutual
inductive Dp (K : PySem.W.Frag) (H : Hp) : V → PyData → Prop
  | non : Dp K H .non .none
  | bl (b : Bool) : Dp K H (.bl b) (.bool b)
  | int (i : Int) : Dp K H (.int i) (.int i)
  | str (x : Str) : Dp K H (.str x) (.str x)
  | lst {a : Addr} {xs : List V} {ds : List PyData} : SqL K H a xs → DpAll K H xs ds → Dp K H (.ref a) (.list ds)
  | tup {a : Addr} {xs : List V} {ds : List PyData} : TupN H a xs → DpAll K H xs ds → Dp K H (.ref a) (.tuple ds)
inductive DpAll (K : PySem.W.Frag) (H : Hp) : List V → List PyData → Prop
  | nil : DpAll K H [] []
  | cons {v : V} {vs : List V} {d : PyData} {ds : List PyData} : Dp K H v d → DpAll K H vs ds → DpAll K H (v :: vs) (d :: ds)
end
mutual
theorem Dp.low {K : PySem.W.Frag} {H : Hp} : ∀ {v : V} {d : PyData}, Dp K H v d → L2.Dp K H v d
  | _, _, .non => .non
  | _, _, .bl b => .bl b
  | _, _, .int i => .int i
  | _, _, .str x => .str x
  | _, _, .lst h hs => .lst h (DpAll.low hs)
  | _, _, .tup h hs => .tup h.sq (DpAll.low hs)
theorem DpAll.low {K : PySem.W.Frag} {H : Hp} : ∀ {vs : List V} {ds : List PyData}, DpAll K H vs ds → L2.DpAll K H vs ds
  | _, _, .nil => .nil
  | _, _, .cons h hs => .cons (Dp.low h) (DpAll.low hs)
end
theorem Same.seqT {K : PySem.W.Frag} {H H' : Hp} {a : Addr} {xs : List V} (e : Same H H') (h : SqT K H a xs) : SqT K H' a xs := by
  rcases h with (h | ⟨o, h⟩) | h
  · exact .inl (.inl (e _ _ h))
  · exact .inl (.inr ⟨o, e _ _ h⟩)
  · exact .inr h
section
variable {K : PySem.W.Frag} {F F' : Hp}
mutual
theorem dp_mono (e : Same F F') : ∀ {v : V} {d : D}, Dp K F v d → Dp K F' v d
  | _, _, .non => .non
  | _, _, .bl b => .bl b
  | _, _, .int i => .int i
  | _, _, .str x => .str x
  | _, _, .lst h hs => .lst (L2.Same.seq e h) (dps_mono e hs)
  | _, _, .tup h hs => .tup (h.mono e) (dps_mono e hs)
theorem dps_mono (e : Same F F') : ∀ {vs : List V} {ds : List D}, DpAll K F vs ds → DpAll K F' vs ds
  | _, _, .nil => .nil
  | _, _, .cons h hs => .cons (dp_mono e h) (dps_mono e hs)
end
theorem dps_len : ∀ {vs : List V} {ds : List D}, DpAll K F vs ds → vs.length = ds.length
  | _, _, .nil => rfl
  | _, _, .cons _ hs => congrArg (· + 1) (dps_len hs)
theorem dps_get : ∀ {vs : List V} {ds : List D} {i : Nat} {d : D}, DpAll K F vs ds → ds[i]? = some d → ∃ v, vs[i]? = some v ∧ Dp K F v d
  | _, _, _, _, .nil, e => by simp at e
  | _, _, 0, _, .cons h _, e => by simp at e; subst e; exact ⟨_, rfl, h⟩
  | _, _, i + 1, _, .cons _ hs, e => by
    obtain ⟨v, h1, h2⟩ := dps_get (i := i) hs (by simpa using e)
    exact ⟨v, by simpa using h1, h2⟩
theorem dps_getV : ∀ {vs : List V} {ds : List D} {i : Nat} {v : V}, DpAll K F vs ds → vs[i]? = some v → ∃ d, ds[i]? = some d ∧ Dp K F v d
  | _, _, _, _, .nil, e => by simp at e
  | _, _, 0, _, .cons h _, e => by simp at e; subst e; exact ⟨_, rfl, h⟩
  | _, _, i + 1, _, .cons _ hs, e => by
    obtain ⟨v, h1, h2⟩ := dps_getV (i := i) hs (by simpa using e)
    exact ⟨v, by simpa using h1, h2⟩
theorem dps_app : ∀ {vs vs' : List V} {ds ds' : List D}, DpAll K F vs ds → DpAll K F vs' ds' → DpAll K F (vs ++ vs') (ds ++ ds')
  | _, _, _, _, .nil, s => s
  | _, _, _, _, .cons h hs, s => .cons h (dps_app hs s)
theorem dps_take : ∀ {vs : List V} {ds : List D} (n : Nat), DpAll K F vs ds → DpAll K F (vs.take n) (ds.take n)
  | _, _, 0, _ => .nil
  | _, _, _ + 1, .nil => .nil
  | _, _, n + 1, .cons h hs => .cons h (dps_take n hs)
theorem dps_drop : ∀ {vs : List V} {ds : List D} (n : Nat), DpAll K F vs ds → DpAll K F (vs.drop n) (ds.drop n)
  | _, _, 0, h => h
  | _, _, _ + 1, .nil => .nil
  | _, _, n + 1, .cons _ hs => dps_drop n hs
theorem dps_set {v : V} {d : D} (r : Dp K F v d) : ∀ {vs : List V} {ds : List D} (n : Nat), DpAll K F vs ds → DpAll K F (vs.set n v) (ds.set n d)
  | _, _, _, .nil => .nil
  | _, _, 0, .cons _ hs => .cons r hs
  | _, _, n + 1, .cons h hs => .cons h (dps_set r n hs)
theorem dps_erase : ∀ {vs : List V} {ds : List D} (n : Nat), DpAll K F vs ds → DpAll K F (vs.eraseIdx n) (ds.eraseIdx n)
  | _, _, _, .nil => .nil
  | _, _, 0, .cons _ hs => hs
  | _, _, n + 1, .cons h hs => .cons h (dps_erase n hs)
theorem dps_rev {vs : List V} {ds : List D} (h : DpAll K F vs ds) : DpAll K F vs.reverse ds.reverse := by
  induction vs generalizing ds with
  | nil => cases h; exact .nil
  | cons v vs ih => cases h with
    | cons h hs => rw [List.reverse_cons, List.reverse_cons]; exact dps_app (ih hs) (.cons h .nil)
theorem dps_rep {vs : List V} {ds : List D} (h : DpAll K F vs ds) : ∀ n : Nat, DpAll K F (List.replicate n vs).flatten (List.replicate n ds).flatten
  | 0 => .nil
  | n + 1 => by rw [List.replicate_succ, List.replicate_succ, List.flatten_cons, List.flatten_cons]; exact dps_app h (dps_rep h n)
theorem dps_ints : ∀ {vs : List V} {is : List Int}, DpAll K F vs (is.map PyData.int) → vs = is.map V.int
  | _, [], .nil => rfl
  | _, i :: is, .cons h hs => by cases h; rw [dps_ints hs]; rfl
theorem dps_of_ints : ∀ (is : List Int), DpAll K F (is.map V.int) (is.map PyData.int)
  | [] => .nil
  | i :: is => .cons (.int i) (dps_of_ints is)
theorem dps_bls : ∀ {vs : List V} {is : List Bool}, DpAll K F vs (is.map PyData.bool) → vs = is.map V.bl
  | _, [], .nil => rfl
  | _, i :: is, .cons h hs => by cases h; rw [dps_bls hs]; rfl
theorem dps_strs : ∀ {vs : List V} {is : List Str}, DpAll K F vs (is.map PyData.str) → vs = is.map V.str
  | _, [], .nil => rfl
  | _, i :: is, .cons h hs => by cases h; rw [dps_strs hs]; rfl
theorem dps_of_strs : ∀ (is : List Str), DpAll K F (is.map V.str) (is.map PyData.str)
  | [] => .nil
  | i :: is => .cons (.str i) (dps_of_strs is)
end

/-- the value at a tracked place is this object -/
def MRep (K : PySem.W.Frag) (F : Hp) (ho : HO) : MO → Prop
  | .lst ds => ∃ vs, ho = .lst vs ∧ DpAll K F vs ds
  | .dic kds => ∃ kvs, ho = .dK kvs ∧ Paired (fun (p : Key × V) (q : Key × D) => p.1 = q.1 ∧ Dp K F p.2 q.2) kvs kds
  | .dct kds => ∃ kvs, ho = .dT kvs ∧ Paired (fun (p : List Key × V) (q : List Key × D) => p.1 = q.1 ∧ Dp K F p.2 q.2) kvs kds
  | .raw vs => ∃ ws, ho = .lst ws ∧ ws = vs
theorem paired_mono {κ : Type} {K : PySem.W.Frag} {F F' : Hp} (e : Same F F') {kvs : List (κ × V)} {kds : List (κ × D)} (h : Paired (fun (p : κ × V) (q : κ × D) => p.1 = q.1 ∧ Dp K F p.2 q.2) kvs kds) :
    Paired (fun (p : κ × V) (q : κ × D) => p.1 = q.1 ∧ Dp K F' p.2 q.2) kvs kds := Paired.mapP h fun _ _ x => ⟨x.1, dp_mono e x.2⟩
theorem mrep_mono {K : PySem.W.Frag} {F F' : Hp} (e : Same F F') {ho : HO} : ∀ {o : MO}, MRep K F ho o → MRep K F' ho o
  | .lst _, ⟨vs, e1, h⟩ => ⟨vs, e1, dps_mono e h⟩
  | .dic _, ⟨vs, e1, h⟩ => ⟨vs, e1, paired_mono e h⟩
  | .dct _, ⟨vs, e1, h⟩ => ⟨vs, e1, paired_mono e h⟩
  | .raw _, ⟨vs, e1, h⟩ => ⟨vs, e1, h⟩
theorem mrep_tbl {K : PySem.W.Frag} {F : Hp} {ho : HO} {o : MO} (h : MRep K F ho o) (ps : Array Value) : ho ≠ .tbl ps := fun z => by
  subst z
  cases o <;> obtain ⟨_, e, _⟩ := h <;> cases e
theorem mrep_code {K : PySem.W.Frag} {F : Hp} {ho : HO} {o : MO} (h : MRep K F ho o) (c : Addr) (q : Str) : ho ≠ LamX.CodeO c q := fun z => by
  subst z
  cases o <;> obtain ⟨_, e, _⟩ := h <;> cases e
theorem mrep_fun {K : PySem.W.Frag} {F : Hp} {ho : HO} {o : MO} (h : MRep K F ho o) (c : Addr) (q : Obj) : ho ≠ FunO c q := fun z => by
  subst z
  cases o <;> obtain ⟨_, e, _⟩ := h <;> cases e
/-- an object of one's own is no table and no code -/
theorem tabs_mut {K : PySem.W.Frag} {T : List (Addr × Str)} {F H : Hp} {p : Addr} {ho ho' : HO} {o : MO} (t : LamX.Tabs T H) (e : H p = some ho) (m : MRep K F ho o) : LamX.Tabs T (upd H p ho') := fun x hx => by
  obtain ⟨ps, h1, h2, h3⟩ := t x hx
  refine ⟨ps, ?_, h2, fun pos cv hc => ?_⟩
  · rw [upd_ne (fun z => by rw [z, e] at h1; exact mrep_tbl m ps (Option.some.inj h1))]; exact h1
  · obtain ⟨c, e1, e2⟩ := h3 pos cv hc
    exact ⟨c, e1, by rw [upd_ne (fun z => by rw [z, e] at e2; exact mrep_code m _ _ (Option.some.inj e2))]; exact e2⟩
/-- what a call leaves as it was, but for what is lent to it -/
def StpX (T : List (Addr × Str)) (p : Addr) (H H' : Hp) : Prop := (∀ q o, q ≠ p → noT T H q = some o → H' q = some o) ∧ LamX.Tabs T H'
theorem StpX.back {K : PySem.W.Frag} {T : List (Addr × Str)} {F' H1 H' : Hp} {q : Addr} {ho ho' : HO} {o' : MO} (h : StpX T q H1 H') (e : H1 q = some ho) (e' : H' q = some ho') (m : MRep K F' ho' o') : Stp T H1 (upd H' q ho) := ⟨fun a o z => by
  by_cases ha : a = q
  · subst ha
    have := noT_sub a o z
    rw [e] at this
    cases this
    exact upd_same
  · rw [upd_ne ha]; exact h.1 a o ha z, tabs_mut h.2 e' m⟩
theorem mrep_mut {K : PySem.W.Frag} {F : Hp} {ho : HO} : ∀ {o : MO}, MRep K F ho o → Mut (some ho)
  | .lst _, ⟨_, e1, _⟩ => by subst e1; trivial
  | .dic _, ⟨_, e1, _⟩ => by subst e1; trivial
  | .dct _, ⟨_, e1, _⟩ => by subst e1; trivial
  | .raw _, ⟨_, e1, _⟩ => by subst e1; trivial

/-- an exception object that is held -/
def ExcHO (cls : Value) (d : Option Addr) (a : Addr) : HO := .ext fun h => ∃ (oe : Obj) (vs : Array Value), h.get? a = some oe ∧ Zc cls d oe ∧ oe.data = .fields vs
def ExcOk (cl : Cl) (F : Hp) (a : Addr) (x : Exn) : Prop := match x.row with
  | none => F a = some (ExcHO (.ref (cl x.c)) none a)
  | some r => ∃ d, F a = some (ExcHO (.ref (cl x.c)) (some d) a) ∧ F d = some (.xd [(Str.ofString "row", .int r)])
theorem excOk_mono {cl : Cl} {F F' : Hp} (e : Same F F') {a : Addr} {x : Exn} (h : ExcOk cl F a x) : ExcOk cl F' a x := by
  unfold ExcOk at h ⊢
  split
  · rename_i q; rw [q] at h; exact e _ _ h
  · rename_i r q; rw [q] at h
    obtain ⟨d, h1, h2⟩ := h
    exact ⟨d, e _ _ h1, e _ _ h2⟩

inductive Tag where
  | s (i : Nat)
  | t (k : Nat)
  deriving DecidableEq
/-- the entry: the heap that is kept, what of it is data, what is lent, what is locked -/
structure Ctx where
  H0 : Hp
  F0 : Hp
  lent : Nat → Option Addr
  lck : Nat → Option Addr
abbrev Own := Addr → Option Tag
section
variable (K : PySem.W.Frag) (cl : Cl) (C : Ctx) (F : Hp) (ρ : Own)
def OwnAt (H : Hp) (g : Tag) (p : Addr) (o : MO) : Prop := ∃ ho, H p = some ho ∧ MRep K F ho o ∧ F p = none ∧ ρ p = some g
/-- one of a nest: an own list, or a tuple of data and an own list -/
def NIt (v : V) (q : Addr) : Option D → Prop
  | none => v = .ref q
  | some d => ∃ t x, v = .ref t ∧ F t = some (.tup [x, .ref q]) ∧ Dp K F x d
def NIts (H0 H : Hp) (g : Tag) : List V → List Addr → List (Option D × List D) → Prop
  | [], [], [] => True
  | v :: vs, q :: qs, x :: xs => (NIt K F v q x.1 ∧ OwnAt K F ρ H g q (.lst x.2) ∧ H0 q = none) ∧ NIts H0 H g vs qs xs
  | _, _, _ => False
def NestAt (H0 H : Hp) (g : Tag) (p : Addr) (xs : List (Option D × List D)) : Prop := ∃ vs qs, OwnAt K F ρ H g p (.raw vs) ∧ H0 p = none ∧ (p :: qs).Nodup ∧ NIts K F ρ H0 H g vs qs xs
def SlotOk (H : Hp) (i : Nat) (v : Option V) : Slot → Prop
  | .un => True
  | .val d => ∃ x, v = some x ∧ Dp K F x d
  | .own o => ∃ p, v = some (.ref p) ∧ OwnAt K F ρ H (.s i) p o ∧ C.H0 p = none
  | .lnt o => ∃ p, v = some (.ref p) ∧ OwnAt K F ρ H (.s i) p o ∧ C.lent i = some p
  | .lck o => ∃ p ho, v = some (.ref p) ∧ OwnAt K F ρ H (.s i) p o ∧ C.lck i = some p ∧ C.H0 p = some ho ∧ ∀ j, C.lent j ≠ some p
  | .exc x => ∃ a, v = some (.ref a) ∧ ExcOk cl F a x
  | .fn ds => ∃ k, cl.cap = some k ∧ v = some (.ref k.f) ∧ C.H0 k.f = some (FunO k.f k.o) ∧ C.H0 k.c = some (LamX.CodeO k.c k.q) ∧ (∀ j, C.lent j ≠ some k.f ∧ C.lent j ≠ some k.c) ∧ match k.k with
    | .inl x => Dp K F x (.tuple ds)
    | .inr p => OwnAt K F ρ H (.s i) p (.lst ds) ∧ C.H0 p = none
  | .nst b xs => ∃ p, v = some (.ref p) ∧ NestAt K F ρ C.H0 H (.s i) p xs ∧ (b = true → C.lck i = some p)
def TmpOk (H : Hp) (k : Nat) (v : V) : Ret → Prop
  | .bor _ => True
  | .val d => Dp K F v d
  | .own o => ∃ p, v = .ref p ∧ OwnAt K F ρ H (.t k) p o ∧ C.H0 p = none
structure RelF (E : SEnv) (T : List (V × Ret)) (σ : St) (H : Hp) : Prop where
  len : E.length = σ.length
  f0 : Same C.F0 F
  fh : Same F H
  h0 : ∀ p o, C.H0 p = some o → (∀ i, C.lent i ≠ some p) → H p = some o
  hf : ∀ p o, C.H0 p = some o → F p = C.F0 p
  tb : TOk cl.T F H
  nt : ∀ p ∈ cl.T.map (·.1), C.H0 p = none
  sl : ∀ i v s, σ[i]? = some v → E[i]? = some s → SlotOk K cl C F ρ H i v s
  ln : ∀ i p, C.lent i = some p → ∃ o, E[i]? = some (.lnt o) ∧ σ[i]? = some (some (.ref p))
  tm : ∀ k v r, T[k]? = some (v, r) → TmpOk K C F ρ H k v r
end
def Rel (K : PySem.W.Frag) (cl : Cl) (C : Ctx) (E : SEnv) (T : List (V × Ret)) (σ : St) (H : Hp) : Prop := ∃ F ρ, RelF K cl C F ρ E T σ H
def Bor (σ : St) (v : V) : Ret → Prop
  | .bor i => σ[i]? = some (some v)
  | _ => True
def ExD (H0 : Hp) (d : Option Addr) (H : Hp) (x : Exn) : Prop := match x.row with
  | none => d = none
  | some r => ∃ dd, d = some dd ∧ H dd = some (.xd [(Str.ofString "row", .int r)]) ∧ H0 dd = none
theorem ExD.weak {A B : Hp} {d : Option Addr} {H : Hp} {x : Exn} (h : ExD A d H x) (hn : ∀ p, A p = none → B p = none) : ExD B d H x := by
  unfold ExD at h ⊢
  split
  · rename_i e; rw [e] at h; exact h
  · rename_i r e; rw [e] at h
    obtain ⟨dd, h1, h2, h3⟩ := h
    exact ⟨dd, h1, h2, hn _ h3⟩

theorem ExD.noT {T : List (Addr × Str)} {A : Hp} {d : Option Addr} {H : Hp} {x : Exn} (h : ExD (MP.noT T A) d H x) (t : LamX.Tabs T H) : ExD A d H x := by
  unfold ExD at h ⊢
  split
  · rename_i e; rw [e] at h; exact h
  · rename_i r e; rw [e] at h
    obtain ⟨dd, h1, h2, h3⟩ := h
    exact ⟨dd, h1, h2, noT_none t h3 h2 fun _ z => by cases z⟩
section
variable {K : PySem.W.Frag} {cl : Cl} {C : Ctx} {F F' : Hp} {ρ ρ' : Own} {E E' : SEnv} {T T' : List (V × Ret)} {σ : St} {H H' : Hp} {i j k : Nat} {p : Addr} {v : V} {r : Ret} {o : MO} {d : D}

theorem RelF.rel (R : RelF K cl C F ρ E T σ H) : Rel K cl C E T σ H := ⟨F, ρ, R⟩
/-- dropping the last temporaries -/
theorem RelF.drop (R : RelF K cl C F ρ E (T ++ T') σ H) : RelF K cl C F ρ E T σ H :=
  { len := R.len, f0 := R.f0, fh := R.fh, h0 := R.h0, hf := R.hf, tb := R.tb, nt := R.nt, sl := R.sl, ln := R.ln, tm := fun k v r e => R.tm k v r (by
      have hk : k < T.length := (List.getElem?_eq_some_iff.mp e).1
      rw [List.getElem?_append_left hk]; exact e) }
theorem Rel.drop (R : Rel K cl C E (T ++ T') σ H) : Rel K cl C E T σ H := let ⟨_, _, r⟩ := R; r.drop.rel

/-- a place that is not tracked is nobody's -/
theorem RelF.new_F (R : RelF K cl C F ρ E T σ H) (hn : H p = none) : F p = none := by
  cases q : F p with
  | none => rfl
  | some u => rw [R.fh p u q] at hn; cases hn
theorem RelF.new_H0 (R : RelF K cl C F ρ E T σ H) (hn : H p = none) : C.H0 p = none := by
  cases q : C.H0 p with
  | none => rfl
  | some u =>
    by_cases hl : ∀ i, C.lent i ≠ some p
    · rw [R.h0 p u q hl] at hn; cases hn
    · obtain ⟨i, hi⟩ := Classical.not_forall.mp hl
      have hi' : C.lent i = some p := Classical.not_not.mp hi
      obtain ⟨o, h1, h2⟩ := R.ln i p hi'
      obtain ⟨p', e, ⟨ho, hh, _⟩, _⟩ := R.sl i _ _ h2 h1
      cases e
      rw [hh] at hn; cases hn
theorem OwnAt.fn {g : Tag} {q : Addr} (h : OwnAt K F ρ H g q o) : F q = none := let ⟨_, _, _, f, _⟩ := h; f
theorem OwnAt.tag {g : Tag} {q : Addr} (h : OwnAt K F ρ H g q o) : ρ q = some g := let ⟨_, _, _, _, f⟩ := h; f
theorem OwnAt.apart {g g' : Tag} {q q' : Addr} {o' : MO} (h : OwnAt K F ρ H g q o) (h' : OwnAt K F ρ H g' q' o') (n : g ≠ g') : q ≠ q' := fun e => by
  subst e
  exact n (Option.some.inj (h.tag.symm.trans h'.tag))
theorem OwnAt.ne {g : Tag} {q : Addr} (h : OwnAt K F ρ H g q o) (hn : H p = none) : q ≠ p := by
  rintro rfl
  obtain ⟨ho, e, _⟩ := h
  rw [hn] at e; cases e
theorem OwnAt.grow {g : Tag} {q : Addr} (h : OwnAt K F ρ H g q o) (e : Same F F') (hH : ∀ ho, H q = some ho → H' q = some ho) (hF : F' q = none) (hρ : ρ' q = ρ q) : OwnAt K F' ρ' H' g q o := by
  obtain ⟨ho, e1, m, f, t⟩ := h
  exact ⟨ho, hH _ e1, mrep_mono e m, hF, by rw [hρ]; exact t⟩

theorem NIt.mono (e : Same F F') {v : V} {q : Addr} : ∀ {od : Option D}, NIt K F v q od → NIt K F' v q od
  | none, h => h
  | some _, ⟨t, x, h1, h2, h3⟩ => ⟨t, x, h1, e _ _ h2, dp_mono e h3⟩
theorem NIts.grow {g : Tag} {H0 : Hp} (e : Same F F') (hq : ∀ q o, OwnAt K F ρ H g q o → OwnAt K F' ρ' H' g q o) : ∀ {vs : List V} {qs : List Addr} {xs : List (Option D × List D)}, NIts K F ρ H0 H g vs qs xs → NIts K F' ρ' H0 H' g vs qs xs
  | [], [], [], _ => trivial
  | _ :: _, _ :: _, _ :: _, ⟨⟨h1, h2, h3⟩, h4⟩ => ⟨⟨h1.mono e, hq _ _ h2, h3⟩, NIts.grow e hq h4⟩
theorem NestAt.grow {g : Tag} {q : Addr} {xs : List (Option D × List D)} {H0 : Hp} (h : NestAt K F ρ H0 H g q xs) (e : Same F F') (hq : ∀ q o, OwnAt K F ρ H g q o → OwnAt K F' ρ' H' g q o) : NestAt K F' ρ' H0 H' g q xs := by
  obtain ⟨vs, qs, h1, h2, h3, h4⟩ := h
  exact ⟨vs, qs, hq _ _ h1, h2, h3, h4.grow e hq⟩
theorem NIts.chg {H0 H0' : Hp} {g : Tag} (e : Same F F') (hq : ∀ q o, OwnAt K F ρ H g q o → H0 q = none → OwnAt K F' ρ' H' g q o ∧ H0' q = none) : ∀ {vs : List V} {qs : List Addr} {xs : List (Option D × List D)}, NIts K F ρ H0 H g vs qs xs → NIts K F' ρ' H0' H' g vs qs xs
  | [], [], [], _ => trivial
  | _ :: _, _ :: _, _ :: _, ⟨⟨h1, h2, h3⟩, h4⟩ => ⟨⟨h1.mono e, (hq _ _ h2 h3).1, (hq _ _ h2 h3).2⟩, NIts.chg e hq h4⟩
theorem NestAt.chg {H0 H0' : Hp} {g : Tag} {q : Addr} {xs : List (Option D × List D)} (h : NestAt K F ρ H0 H g q xs) (e : Same F F') (hq : ∀ q o, OwnAt K F ρ H g q o → H0 q = none → OwnAt K F' ρ' H' g q o ∧ H0' q = none) : NestAt K F' ρ' H0' H' g q xs := by
  obtain ⟨vs, qs, h1, h2, h3, h4⟩ := h
  exact ⟨vs, qs, (hq _ _ h1 h2).1, (hq _ _ h1 h2).2, h3, h4.chg e hq⟩
/-- all slots and temporaries pass to a larger state -/
theorem SlotOk.grow {s : Slot} {w : Option V} (h : SlotOk K cl C F ρ H i w s) (e : Same F F') (hq : ∀ q o, OwnAt K F ρ H (.s i) q o → OwnAt K F' ρ' H' (.s i) q o) : SlotOk K cl C F' ρ' H' i w s := by
  cases s with
  | un => trivial
  | val d => obtain ⟨x, e1, h1⟩ := h; exact ⟨x, e1, dp_mono e h1⟩
  | own o => obtain ⟨p, e1, h1, h2⟩ := h; exact ⟨p, e1, hq _ _ h1, h2⟩
  | lnt o => obtain ⟨p, e1, h1, h2⟩ := h; exact ⟨p, e1, hq _ _ h1, h2⟩
  | lck o => obtain ⟨p, ho, e1, h1, h2⟩ := h; exact ⟨p, ho, e1, hq _ _ h1, h2⟩
  | exc x => obtain ⟨a, e1, h1⟩ := h; exact ⟨a, e1, excOk_mono e h1⟩
  | fn ds =>
    obtain ⟨k, e1, e2, e3, e4, e5, h1⟩ := h
    refine ⟨k, e1, e2, e3, e4, e5, ?_⟩
    split at h1
    · exact dp_mono e h1
    · exact ⟨hq _ _ h1.1, h1.2⟩
  | nst b xs => obtain ⟨p, e1, h1, h2⟩ := h; exact ⟨p, e1, h1.grow e hq, h2⟩
theorem TmpOk.grow (h : TmpOk K C F ρ H k v r) (e : Same F F') (hq : ∀ q o, OwnAt K F ρ H (.t k) q o → OwnAt K F' ρ' H' (.t k) q o) : TmpOk K C F' ρ' H' k v r := by
  cases r with
  | bor i => trivial
  | val d => exact dp_mono e h
  | own o => obtain ⟨p, e1, h1, h2⟩ := h; exact ⟨p, e1, hq _ _ h1, h2⟩

/-- a temporary is pushed whose value is data already -/
theorem RelF.push_val (R : RelF K cl C F ρ E T σ H) (h : Dp K F v d) : RelF K cl C F ρ E (T ++ [(v, .val d)]) σ H where
  len := R.len
  f0 := R.f0
  fh := R.fh
  h0 := R.h0
  hf := R.hf
  tb := R.tb
  nt := R.nt
  sl := R.sl
  ln := R.ln
  tm := fun k w r e => by
    rcases at_snoc e with e | ⟨_, e⟩
    · exact R.tm k w r e
    · cases e; exact h
theorem RelF.push_bor (R : RelF K cl C F ρ E T σ H) : RelF K cl C F ρ E (T ++ [(v, .bor i)]) σ H where
  len := R.len
  f0 := R.f0
  fh := R.fh
  h0 := R.h0
  hf := R.hf
  tb := R.tb
  nt := R.nt
  sl := R.sl
  ln := R.ln
  tm := fun k w r e => by
    rcases at_snoc e with e | ⟨_, e⟩
    · exact R.tm k w r e
    · cases e; trivial
/-- a new object of one's own is pushed -/
theorem RelF.push_own (R : RelF K cl C F ρ E T σ H) (hn : H p = none) {ho : HO} (m : MRep K F ho o) :
    RelF K cl C F (fun q => if q = p then some (.t T.length) else ρ q) E (T ++ [(.ref p, .own o)]) σ (upd H p ho) := by
  have hF := R.new_F hn
  have h0 := R.new_H0 hn
  have hs : Same H (upd H p ho) := fun b x e => by rw [upd_ne (ne_of_none e hn)]; exact e
  have hq : ∀ g q o, OwnAt K F ρ H g q o → OwnAt K F (fun q => if q = p then some (.t T.length) else ρ q) (upd H p ho) g q o := fun g q o h =>
    h.grow (L2.Same.refl F) (fun u e => hs _ _ e) h.fn (if_neg (h.ne hn))
  refine { len := R.len, f0 := R.f0, fh := L2.Same.trans R.fh hs, h0 := fun q u e l => hs _ _ (R.h0 q u e l), hf := R.hf, tb := ⟨R.tb.1.ext hs, R.tb.2⟩, nt := R.nt, sl := fun i v s e1 e2 => (R.sl i v s e1 e2).grow (L2.Same.refl F) (hq _), ln := R.ln, tm := fun k w r e => ?_ }
  rcases at_snoc e with e | ⟨hk1, e⟩
  · exact (R.tm k w r e).grow (L2.Same.refl F) (hq _)
  · cases e
    subst hk1
    exact ⟨p, rfl, ⟨ho, upd_same, m, hF, if_pos rfl⟩, h0⟩
/-- new data that is laid -/
theorem RelF.lay (R : RelF K cl C F ρ E T σ H) (hn : H p = none) (ho : HO) : RelF K cl C (upd F p ho) ρ E T σ (upd H p ho) ∧ Same F (upd F p ho) := by
  have hF := R.new_F hn
  have h0 := R.new_H0 hn
  have hs : Same H (upd H p ho) := fun b x e => by rw [upd_ne (ne_of_none e hn)]; exact e
  have fs : Same F (upd F p ho) := fun b x e => by rw [upd_ne (ne_of_none e hF)]; exact e
  have hq : ∀ g q o, OwnAt K F ρ H g q o → OwnAt K (upd F p ho) ρ (upd H p ho) g q o := fun g q o h =>
    h.grow fs (fun u e => hs _ _ e) (by rw [upd_ne (h.ne hn)]; exact h.fn) rfl
  refine ⟨{ len := R.len, f0 := L2.Same.trans R.f0 fs, fh := fun b x e => ?_, h0 := fun q u e l => hs _ _ (R.h0 q u e l), tb := ⟨R.tb.1.ext hs, R.tb.put (R.tb.new hn)⟩, nt := R.nt, hf := fun q u e => ?_, sl := fun i v s e1 e2 => (R.sl i v s e1 e2).grow fs (hq _), ln := R.ln, tm := fun k w r e => (R.tm k w r e).grow fs (hq _) }, fs⟩
  · by_cases hb : b = p
    · subst hb; rw [upd_same] at e; cases e; exact upd_same
    · rw [upd_ne hb] at e; rw [upd_ne hb]; exact R.fh b x e
  · have hqp : q ≠ p := fun z => by subst z; rw [h0] at e; cases e
    rw [upd_ne hqp]; exact R.hf q u e

/-! ### data of an operand -/
def Slot.dat : Slot → Option D
  | .val d => some d
  | .own (.lst ds) => some (.list ds)
  | .lnt (.lst ds) => some (.list ds)
  | .lck (.lst ds) => some (.list ds)
  | _ => none
def dat (E : SEnv) : Ret → Option D
  | .val d => some d
  | .own (.lst ds) => some (.list ds)
  | .own _ => none
  | .bor i => (E[i]?).bind Slot.dat
/-- data whose outermost list may be one's own -/
def DpT (K : PySem.W.Frag) (F H : Hp) (v : V) : D → Prop
  | .list ds => ∃ a xs, v = .ref a ∧ (SqL K F a xs ∨ H a = some (.lst xs)) ∧ DpAll K F xs ds
  | d => Dp K F v d
theorem sql_or (e : Same F H) {a : Addr} {xs : List V} (h : SqL K F a xs ∨ H a = some (.lst xs)) : SqL K H a xs := by
  rcases h with h | h
  · exact L2.Same.seq e h
  · exact SqL.of h
theorem dpt_of (h : Dp K F v d) (e : Same F H) : DpT K F H v d := by
  cases h with
  | lst h hs => exact ⟨_, _, rfl, .inl h, hs⟩
  | non => exact .non
  | bl b => exact .bl b
  | int i => exact .int i
  | str x => exact .str x
  | tup h hs => exact .tup h hs
theorem dp_of (h : DpT K F H v d) (e : Same F H) : Dp K H v d := by
  cases d with
  | list ds => obtain ⟨a, xs, rfl, h1, h2⟩ := h; exact .lst (sql_or e h1) (dps_mono e h2)
  | none => exact dp_mono e (show Dp K F v _ from h)
  | bool b => exact dp_mono e (show Dp K F v _ from h)
  | int i => exact dp_mono e (show Dp K F v _ from h)
  | str x => exact dp_mono e (show Dp K F v _ from h)
  | tuple ds => exact dp_mono e (show Dp K F v _ from h)
  | dict ds => exact dp_mono e (show Dp K F v _ from h)
theorem OwnAt.dpt {g : Tag} {q : Addr} {ds : List D} (h : OwnAt K F ρ H g q (.lst ds)) : DpT K F H (.ref q) (.list ds) := by
  obtain ⟨ho, e, ⟨vs, rfl, hd⟩, _, _⟩ := h
  exact ⟨q, vs, rfl, .inr e, hd⟩
theorem SlotOk.dpt {s : Slot} (h : SlotOk K cl C F ρ H i (some v) s) (e : Same F H) (hd : s.dat = some d) : DpT K F H v d := by
  cases s with
  | un => cases hd
  | exc x => cases hd
  | fn ds => cases hd
  | nst b xs => cases hd
  | val d' => cases hd; obtain ⟨x, e1, h1⟩ := h; cases e1; exact dpt_of h1 e
  | own o => cases o with
    | lst ds => cases hd; obtain ⟨p, e1, h1, _⟩ := h; cases e1; exact h1.dpt
    | dic _ => cases hd
    | dct _ => cases hd
    | raw _ => cases hd
  | lnt o => cases o with
    | lst ds => cases hd; obtain ⟨p, e1, h1, _⟩ := h; cases e1; exact h1.dpt
    | dic _ => cases hd
    | dct _ => cases hd
    | raw _ => cases hd
  | lck o => cases o with
    | lst ds => cases hd; obtain ⟨p, ho, e1, h1, _⟩ := h; cases e1; exact h1.dpt
    | dic _ => cases hd
    | dct _ => cases hd
    | raw _ => cases hd
theorem RelF.dat (R : RelF K cl C F ρ E T σ H) (e : T[k]? = some (v, r)) (b : Bor σ v r) (hd : dat E r = some d) : DpT K F H v d := by
  cases r with
  | val d' => cases hd; exact dpt_of (R.tm k v _ e) R.fh
  | own o => cases o with
    | lst ds => cases hd; obtain ⟨p, rfl, h1, _⟩ := R.tm k v _ e; exact h1.dpt
    | dic _ => cases hd
    | dct _ => cases hd
    | raw _ => cases hd
  | bor i =>
    have hd' : (E[i]?).bind Slot.dat = some d := hd
    obtain ⟨s, hs, hd2⟩ := Option.bind_eq_some_iff.mp hd'
    exact (R.sl i _ s b hs).dpt R.fh hd2

/-! ### an own list becomes data -/
theorem RelF.freeze_core {g : Tag} {ds : List D} (R : RelF K cl C F ρ E T σ H) (h : OwnAt K F ρ H g p (.lst ds)) (hp : C.H0 p = none) (hl : E'.length = E.length)
    (hE : ∀ i s, E'[i]? = some s → (E[i]? = some s ∧ Tag.s i ≠ g) ∨ (σ[i]? = some (some (.ref p)) ∧ s = .val (.list ds)))
    (hn : ∀ (i : Nat) (o : MO), E[i]? = some (Slot.lnt o) → E'[i]? = some (Slot.lnt o))
    (hT : ∀ k v r, T'[k]? = some (v, r) → (T[k]? = some (v, r) ∧ Tag.t k ≠ g) ∨ (v = .ref p ∧ r = .val (.list ds))) :
    ∃ F', Same F F' ∧ RelF K cl C F' ρ E' T' σ H ∧ Dp K F' (.ref p) (.list ds) := by
  obtain ⟨ho, e, ⟨vs, rfl, hd⟩, hf, ht⟩ := id h
  have fs : Same F (upd F p (.lst vs)) := fun b x e => by rw [upd_ne (ne_of_none e hf)]; exact e
  have hq : ∀ g', g' ≠ g → ∀ q o, OwnAt K F ρ H g' q o → OwnAt K (upd F p (.lst vs)) ρ H g' q o := fun g' n q o h' =>
    h'.grow fs (fun _ e => e) (by rw [upd_ne (h'.apart h n)]; exact h'.fn) rfl
  have hdp : Dp K (upd F p (.lst vs)) (.ref p) (.list ds) := .lst (SqL.of upd_same) (dps_mono fs hd)
  refine ⟨upd F p (.lst vs), fs, ?_, hdp⟩
  refine { len := hl.trans R.len, f0 := L2.Same.trans R.f0 fs, fh := fun b x e' => ?_, h0 := R.h0, tb := ⟨R.tb.1, R.tb.put (noT_no R.tb.1 e fun _ z => by cases z)⟩, nt := R.nt, hf := fun q u e' => ?_, sl := fun i w s e1 e2 => ?_, ln := fun i q e' => ?_, tm := fun k w r e' => ?_ }
  · by_cases hb : b = p
    · subst hb; rw [upd_same] at e'; cases e'; exact e
    · rw [upd_ne hb] at e'; exact R.fh b x e'
  · have hqp : q ≠ p := fun z => by subst z; rw [hp] at e'; cases e'
    rw [upd_ne hqp]; exact R.hf q u e'
  · rcases hE i s e2 with ⟨e3, n⟩ | ⟨e3, rfl⟩
    · exact (R.sl i w s e1 e3).grow fs (hq _ n)
    · rw [e3] at e1; cases e1; exact ⟨_, rfl, hdp⟩
  · obtain ⟨o, h1, h2⟩ := R.ln i q e'
    exact ⟨o, hn i o h1, h2⟩
  · rcases hT k w r e' with ⟨e3, n⟩ | ⟨rfl, rfl⟩
    · exact (R.tm k w r e3).grow fs (hq _ n)
    · exact hdp
theorem set_cases {α : Type} {l : List α} {i j : Nat} {x y : α} (e : (l.set i x)[j]? = some y) : (j = i ∧ y = x ∧ i < l.length) ∨ (j ≠ i ∧ l[j]? = some y) := by
  by_cases h : j = i
  · subst h
    by_cases hl : j < l.length
    · rw [List.getElem?_set_self hl] at e; cases e; exact .inl ⟨rfl, rfl, hl⟩
    · rw [List.getElem?_eq_none (by simpa using hl)] at e; cases e
  · rw [List.getElem?_set_ne (Ne.symm h)] at e; exact .inr ⟨h, e⟩
theorem slot_there (R : RelF K cl C F ρ E T σ H) {s : Slot} (e : E[i]? = some s) : ∃ w, σ[i]? = some w := by
  have h := (List.getElem?_eq_some_iff.mp e).1
  rw [R.len] at h
  exact ⟨σ[i], List.getElem?_eq_getElem h⟩
theorem RelF.freeze_slot {ds : List D} (R : RelF K cl C F ρ E T σ H) (e : E[i]? = some (.own (.lst ds))) (b : σ[i]? = some (some v)) :
    ∃ F', Same F F' ∧ RelF K cl C F' ρ (E.set i (.val (.list ds))) T σ H ∧ Dp K F' v (.list ds) := by
  obtain ⟨p, e1, h1, h2⟩ := R.sl i _ _ b e
  cases e1
  refine R.freeze_core h1 h2 (by simp) (fun j s ej => ?_) (fun j o ej => ?_) (fun k w r ek => .inl ⟨ek, fun z => by cases z⟩)
  · rcases set_cases ej with ⟨rfl, rfl, _⟩ | ⟨n, ej⟩
    · exact .inr ⟨b, rfl⟩
    · exact .inl ⟨ej, fun z => by cases z; exact n rfl⟩
  · have n : j ≠ i := fun z => by subst z; rw [e] at ej; cases ej
    rw [List.getElem?_set_ne (Ne.symm n)]; exact ej
/-- a value is kept by what takes it: its list is no longer one's own -/
def take (E : SEnv) : Ret → Option (D × SEnv)
  | .val d => some (d, E)
  | .own (.lst ds) => some (.list ds, E)
  | .own _ => none
  | .bor i => match E[i]? with
    | some (.val d) => some (d, E)
    | some (.own (.lst ds)) => some (.list ds, E.set i (.val (.list ds)))
    | _ => none
theorem RelF.take {T2 : List (V × Ret)} (R : RelF K cl C F ρ E (T ++ (v, r) :: T2) σ H) (b : Bor σ v r) (h : take E r = some (d, E')) :
    ∃ F', Same F F' ∧ RelF K cl C F' ρ E' (T ++ (v, .val d) :: T2) σ H ∧ Dp K F' v d := by
  have at0 : (T ++ (v, r) :: T2)[T.length]? = some (v, r) := by simp
  have atk : ∀ {r' : Ret} {k : Nat} {w : V} {s : Ret}, (T ++ (v, r') :: T2)[k]? = some (w, s) → (k ≠ T.length ∧ (T ++ (v, r) :: T2)[k]? = some (w, s)) ∨ (k = T.length ∧ w = v ∧ s = r') := fun {r' k w s} e => by
    by_cases hk : k = T.length
    · subst hk; simp at e; exact .inr ⟨rfl, e.1.symm, e.2.symm⟩
    · refine .inl ⟨hk, ?_⟩
      rcases Nat.lt_or_ge k T.length with h1 | h1
      · rw [List.getElem?_append_left h1] at e ⊢; exact e
      · rw [List.getElem?_append_right h1] at e ⊢
        obtain ⟨m, hm⟩ : ∃ m, k - T.length = m + 1 := ⟨k - T.length - 1, by omega⟩
        rw [hm] at e ⊢; exact e
  have same : ∀ {F' : Hp} {d : D}, Dp K F' v d → RelF K cl C F' ρ E' (T ++ (v, r) :: T2) σ H → RelF K cl C F' ρ E' (T ++ (v, .val d) :: T2) σ H := fun {F' d} hd R' =>
    { len := R'.len, f0 := R'.f0, fh := R'.fh, h0 := R'.h0, hf := R'.hf, tb := R'.tb, nt := R'.nt, sl := R'.sl, ln := R'.ln, tm := fun k w s e => by
        rcases atk e with ⟨_, e⟩ | ⟨_, rfl, rfl⟩
        · exact R'.tm k w s e
        · exact hd }
  cases r with
  | val d' => cases h; exact ⟨F, L2.Same.refl F, R, R.tm _ _ _ at0⟩
  | own o => cases o with
    | dic _ => cases h
    | dct _ => cases h
    | raw _ => cases h
    | lst ds =>
      cases h
      obtain ⟨p, rfl, h1, h2⟩ := R.tm _ _ _ at0
      refine R.freeze_core h1 h2 rfl (fun j s ej => .inl ⟨ej, fun z => by cases z⟩) (fun _ _ z => z) (fun k w s e => ?_)
      rcases atk e with ⟨n, e⟩ | ⟨_, rfl, rfl⟩
      · exact .inl ⟨e, fun z => by cases z; exact n rfl⟩
      · exact .inr ⟨rfl, rfl⟩
  | bor i =>
    have b' : σ[i]? = some (some v) := b
    unfold MP.take at h
    dsimp only at h
    split at h
    · rename_i d' e
      cases h
      obtain ⟨x, e1, h1⟩ := R.sl i _ _ b' e
      cases e1
      exact ⟨F, L2.Same.refl F, same h1 R, h1⟩
    · rename_i ds e
      cases h
      obtain ⟨F', f1, R', h1⟩ := R.freeze_slot e b'
      exact ⟨F', f1, same h1 R', h1⟩
    · cases h
def takes (E : SEnv) : List Ret → Option (List D × SEnv)
  | [] => some ([], E)
  | r :: rs => match take E r with
    | some (d, E1) => (match takes E1 rs with
      | some (ds, E2) => some (d :: ds, E2)
      | none => none)
    | none => none
/-- the temporaries of an argument list -/
def Bors (σ : St) : List V → List Ret → Prop
  | [], [] => True
  | v :: vs, r :: rs => Bor σ v r ∧ Bors σ vs rs
  | _, _ => False
theorem bors_len {σ : St} : ∀ {vs : List V} {rs : List Ret}, Bors σ vs rs → vs.length = rs.length
  | [], [], _ => rfl
  | _ :: _, _ :: _, h => congrArg (· + 1) (bors_len h.2)
theorem RelF.takes : ∀ {rs : List Ret} {vs : List V} {T : List (V × Ret)} {F : Hp} {E : SEnv} {ds : List D} {E' : SEnv}, RelF K cl C F ρ E (T ++ vs.zip rs) σ H → Bors σ vs rs → MP.takes E rs = some (ds, E') →
    ∃ F', Same F F' ∧ RelF K cl C F' ρ E' T σ H ∧ DpAll K F' vs ds
  | [], [], T, F, E, ds, E', R, _, h => by cases h; exact ⟨F, L2.Same.refl F, by simpa using R, .nil⟩
  | r :: rs, v :: vs, T, F, E, ds, E', R, b, h => by
    unfold MP.takes at h
    split at h
    · rename_i d E1 e1
      split at h
      · rename_i ds2 E2 e2
        cases h
        obtain ⟨F1, f1, R1, h1⟩ := RelF.take (T := T) (T2 := vs.zip rs) (r := r) (v := v) R b.1 e1
        have R1' : RelF K cl C F1 ρ E1 ((T ++ [(v, .val d)]) ++ vs.zip rs) σ H := by rw [List.append_assoc]; exact R1
        obtain ⟨F2, f2, R2, h2⟩ := RelF.takes R1' b.2 e2
        have h3 : Dp K F2 v d := R2.tm T.length v (.val d) (by simp)
        exact ⟨F2, L2.Same.trans f1 f2, R2.drop, .cons h3 h2⟩
      · cases h
    · cases h

/-! ### a name is stored -/
def Slot.free : Slot → Bool
  | .lnt _ => false
  | .lck _ => false
  | .fn _ => false
  | _ => true
def mStore (i : Nat) (r : Ret) (E : SEnv) : Option SEnv := match E[i]? with
  | none => none
  | some s => if s.free then (match r with
    | .own o => some (E.set i (.own o))
    | .val d => some (E.set i (.val d))
    | .bor j => (match E[j]? with
      | some (.val d) => some (E.set i (.val d))
      | some (.exc x) => some (E.set i (.exc x))
      | some (.own (.lst ds)) => some ((E.set j (.val (.list ds))).set i (.val (.list ds)))
      | _ => none)) else none
theorem RelF.put_slot {s s' : Slot} (R : RelF K cl C F ρ E T σ H) (e : E[i]? = some s) (hs : s.free = true) (hF : Same F F') (hH : Same F' H) (h0 : ∀ p o, C.H0 p = some o → F' p = C.F0 p) (ht : ∀ p ∈ cl.T.map (·.1), F' p = none)
    (hq : ∀ g, g ≠ Tag.s i → ∀ q o, OwnAt K F ρ H g q o → (∃ k, g = .t k ∧ T.length ≤ k) ∨ OwnAt K F' ρ' H g q o) (new : SlotOk K cl C F' ρ' H i (some v) s') : RelF K cl C F' ρ' (E.set i s') T (σ.set i (some v)) H where
  len := by simpa using R.len
  f0 := L2.Same.trans R.f0 hF
  fh := hH
  h0 := R.h0
  hf := h0
  tb := ⟨R.tb.1, ht⟩
  nt := R.nt
  sl := fun j w u e1 e2 => by
    rcases set_cases e2 with ⟨rfl, rfl, _⟩ | ⟨n, e2⟩
    · rcases set_cases e1 with ⟨_, rfl, _⟩ | ⟨n, _⟩
      · exact new
      · exact absurd rfl n
    · rw [List.getElem?_set_ne (Ne.symm n)] at e1
      exact (R.sl j w u e1 e2).grow hF fun q o h => by
        rcases hq (.s j) (fun z => by cases z; exact n rfl) q o h with ⟨k, z, _⟩ | h
        · cases z
        · exact h
  ln := fun j p e1 => by
    obtain ⟨o, h1, h2⟩ := R.ln j p e1
    have n : j ≠ i := fun z => by subst z; rw [e] at h1; cases h1; cases hs
    exact ⟨o, by rw [List.getElem?_set_ne (Ne.symm n)]; exact h1, by rw [List.getElem?_set_ne (Ne.symm n)]; exact h2⟩
  tm := fun k w r e1 => (R.tm k w r e1).grow hF fun q o h => by
    rcases hq (.t k) (fun z => by cases z) q o h with ⟨k', z, z2⟩ | h
    · cases z
      have := (List.getElem?_eq_some_iff.mp e1).1
      omega
    · exact h
theorem RelF.store (R : RelF K cl C F ρ E (T ++ [(v, r)]) σ H) (b : Bor σ v r) (h : mStore i r E = some E') : ∃ F' ρ', Same F F' ∧ RelF K cl C F' ρ' E' T (σ.set i (some v)) H := by
  have at0 : (T ++ [(v, r)])[T.length]? = some (v, r) := by simp
  unfold mStore at h
  split at h
  · cases h
  · rename_i s e
    split at h
    · rename_i hs
      have keep : ∀ g, g ≠ Tag.s i → ∀ q o, OwnAt K F ρ H g q o → (∃ k, g = .t k ∧ T.length ≤ k) ∨ OwnAt K F ρ H g q o := fun _ _ _ _ h => .inr h
      split at h
      · rename_i o
        cases h
        obtain ⟨p, rfl, h1, h2⟩ := R.tm _ _ _ at0
        refine ⟨F, fun q => if q = p then some (.s i) else ρ q, L2.Same.refl F, R.drop.put_slot e hs (L2.Same.refl F) R.fh R.hf R.tb.2 (fun g n q o' h' => ?_) ⟨p, rfl, ?_, h2⟩⟩
        · by_cases hg : g = .t T.length
          · exact .inl ⟨_, hg, Nat.le_refl _⟩
          · exact .inr (h'.grow (L2.Same.refl F) (fun _ e => e) h'.fn (if_neg (h'.apart h1 hg)))
        · obtain ⟨ho, e1, m, f, _⟩ := h1
          exact ⟨ho, e1, m, f, if_pos rfl⟩
      · rename_i d
        cases h
        exact ⟨F, ρ, L2.Same.refl F, R.drop.put_slot e hs (L2.Same.refl F) R.fh R.hf R.tb.2 keep ⟨v, rfl, R.tm _ _ _ at0⟩⟩
      · rename_i j
        have b' : σ[j]? = some (some v) := b
        split at h
        · rename_i d e2
          cases h
          obtain ⟨x, e3, h3⟩ := R.sl j _ _ b' e2
          cases e3
          exact ⟨F, ρ, L2.Same.refl F, R.drop.put_slot e hs (L2.Same.refl F) R.fh R.hf R.tb.2 keep ⟨v, rfl, h3⟩⟩
        · rename_i x e2
          cases h
          obtain ⟨a, e3, h3⟩ := R.sl j _ _ b' e2
          cases e3
          exact ⟨F, ρ, L2.Same.refl F, R.drop.put_slot e hs (L2.Same.refl F) R.fh R.hf R.tb.2 keep ⟨_, rfl, h3⟩⟩
        · rename_i ds e2
          cases h
          obtain ⟨F', f1, R', h1⟩ := R.freeze_slot e2 b'
          by_cases hij : i = j
          · subst hij
            have hlt := (List.getElem?_eq_some_iff.mp e2).1
            exact ⟨F', ρ, f1, R'.drop.put_slot (s := .val (.list ds)) (by rw [List.getElem?_set_self hlt]) rfl (L2.Same.refl F') R'.fh R'.hf R'.tb.2 (fun _ _ _ _ h => .inr h) ⟨v, rfl, h1⟩⟩
          · exact ⟨F', ρ, f1, R'.drop.put_slot (by rw [List.getElem?_set_ne (Ne.symm hij)]; exact e) hs (L2.Same.refl F') R'.fh R'.hf R'.tb.2 (fun _ _ _ _ h => .inr h) ⟨v, rfl, h1⟩⟩
        · cases h
    · cases h

/-! ### an own object is changed -/
theorem RelF.mut_own {o' : MO} {ho' : HO} (R : RelF K cl C F ρ E T σ H) (e : E[i]? = some (.own o)) (b : σ[i]? = some (some (.ref p))) (m : MRep K F ho' o') : RelF K cl C F ρ (E.set i (.own o')) T σ (upd H p ho') := by
  obtain ⟨p', e1, h1, h2⟩ := R.sl i _ _ b e
  cases e1
  have hq : ∀ g, g ≠ Tag.s i → ∀ q o, OwnAt K F ρ H g q o → OwnAt K F ρ (upd H p ho') g q o := fun g n q o h' =>
    h'.grow (L2.Same.refl F) (fun u e => by rw [upd_ne (h'.apart h1 n)]; exact e) h'.fn rfl
  refine { len := by simpa using R.len, f0 := R.f0, fh := fun q u e' => ?_, h0 := fun q u e' l => ?_, hf := R.hf, tb := ⟨let ⟨_, e0, m0, _⟩ := h1; tabs_mut R.tb.1 e0 m0, R.tb.2⟩, nt := R.nt, sl := fun j w s e1 e2 => ?_, ln := fun j q e' => ?_, tm := fun k w r e' => (R.tm k w r e').grow (L2.Same.refl F) (hq _ fun z => by cases z) }
  · rw [upd_ne (ne_of_none e' h1.fn)]; exact R.fh q u e'
  · rw [upd_ne (ne_of_none e' h2)]; exact R.h0 q u e' l
  · rcases set_cases e2 with ⟨rfl, rfl, _⟩ | ⟨n, e2⟩
    · rw [b] at e1; cases e1
      exact ⟨p, rfl, ⟨ho', upd_same, m, h1.fn, h1.tag⟩, h2⟩
    · exact (R.sl j w s e1 e2).grow (L2.Same.refl F) (hq _ fun z => by cases z; exact n rfl)
  · obtain ⟨o2, g1, g2⟩ := R.ln j q e'
    have n : j ≠ i := fun z => by subst z; rw [e] at g1; cases g1
    exact ⟨o2, by rw [List.getElem?_set_ne (Ne.symm n)]; exact g1, g2⟩
theorem RelF.mut_lnt {o' : MO} {ho' : HO} (R : RelF K cl C F ρ E T σ H) (e : E[i]? = some (.lnt o)) (b : σ[i]? = some (some (.ref p))) (m : MRep K F ho' o') : RelF K cl C F ρ (E.set i (.lnt o')) T σ (upd H p ho') := by
  obtain ⟨p', e1, h1, h2⟩ := R.sl i _ _ b e
  cases e1
  have hq : ∀ g, g ≠ Tag.s i → ∀ q o, OwnAt K F ρ H g q o → OwnAt K F ρ (upd H p ho') g q o := fun g n q o h' =>
    h'.grow (L2.Same.refl F) (fun u e => by rw [upd_ne (h'.apart h1 n)]; exact e) h'.fn rfl
  refine { len := by simpa using R.len, f0 := R.f0, fh := fun q u e' => ?_, h0 := fun q u e' l => ?_, hf := R.hf, tb := ⟨let ⟨_, e0, m0, _⟩ := h1; tabs_mut R.tb.1 e0 m0, R.tb.2⟩, nt := R.nt, sl := fun j w s e1 e2 => ?_, ln := fun j q e' => ?_, tm := fun k w r e' => (R.tm k w r e').grow (L2.Same.refl F) (hq _ fun z => by cases z) }
  · rw [upd_ne (ne_of_none e' h1.fn)]; exact R.fh q u e'
  · rw [upd_ne (show q ≠ p from fun z => by subst z; exact l i h2)]; exact R.h0 q u e' l
  · rcases set_cases e2 with ⟨rfl, rfl, _⟩ | ⟨n, e2⟩
    · rw [b] at e1; cases e1
      exact ⟨p, rfl, ⟨ho', upd_same, m, h1.fn, h1.tag⟩, h2⟩
    · exact (R.sl j w s e1 e2).grow (L2.Same.refl F) (hq _ fun z => by cases z; exact n rfl)
  · by_cases n : j = i
    · subst n
      obtain ⟨o2, g1, g2⟩ := R.ln j q e'
      have hlt := (List.getElem?_eq_some_iff.mp e).1
      exact ⟨o', by rw [List.getElem?_set_self hlt], g2⟩
    · obtain ⟨o2, g1, g2⟩ := R.ln j q e'
      exact ⟨o2, by rw [List.getElem?_set_ne (Ne.symm n)]; exact g1, g2⟩

/-! ### behind a call -/
theorem RelF.there (R : RelF K cl C F ρ E T σ H) {u : HO} (e : C.H0 p = some u) : ∃ o, H p = some o := by
  cases q : H p with
  | some o => exact ⟨o, rfl⟩
  | none => rw [R.new_H0 q] at e; cases e
theorem RelF.retag (R : RelF K cl C F ρ E T σ H) (hn : H p = none) (g : Tag) : RelF K cl C F (fun q => if q = p then some g else ρ q) E T σ H := by
  have hq : ∀ g' q o, OwnAt K F ρ H g' q o → OwnAt K F (fun q => if q = p then some g else ρ q) H g' q o := fun g' q o h =>
    h.grow (L2.Same.refl F) (fun _ e => e) h.fn (if_neg (h.ne hn))
  exact { len := R.len, f0 := R.f0, fh := R.fh, h0 := R.h0, hf := R.hf, tb := R.tb, nt := R.nt, sl := fun i v s e1 e2 => (R.sl i v s e1 e2).grow (L2.Same.refl F) (hq _), ln := R.ln, tm := fun k w r e => (R.tm k w r e).grow (L2.Same.refl F) (hq _) }
theorem RelF.nt0 (R : RelF K cl C F ρ E T σ H) {u : HO} (e : C.H0 p = some u) : p ∉ cl.T.map (·.1) := fun h => by rw [R.nt p h] at e; cases e
theorem same_stp (R : RelF K cl C F ρ E T σ H) (hH : Stp cl.T H H') : Same F H' := fun p o e => hH.1 _ _ (by
  have h : p ∉ cl.T.map (·.1) := fun h => by rw [R.tb.2 p h] at e; cases e
  rw [noT_at h]; exact R.fh _ _ e)
theorem RelF.after (R : RelF K cl C F ρ E T σ H) (hH : Stp cl.T H H') (hF : Same F F') (hFH : Same F' H') (hk : ∀ p o, H p = some o → F' p = F p) : RelF K cl C F' ρ E T σ H' := by
  have hq : ∀ g q o, OwnAt K F ρ H g q o → OwnAt K F' ρ H' g q o := fun g q o h =>
    h.grow hF (fun u e => hH.1 _ _ (by
      obtain ⟨ho, e', m, _⟩ := _root_.id h
      rw [noT_at (noT_no R.tb.1 e' (mrep_tbl m))]; exact e)) (by obtain ⟨ho, e, m, _⟩ := id h; rw [hk q ho e]; exact h.fn) rfl
  exact { len := R.len, f0 := L2.Same.trans R.f0 hF, fh := hFH, h0 := fun q u e l => hH.1 _ _ (by rw [noT_at (R.nt0 e)]; exact R.h0 q u e l), tb := ⟨hH.2, fun p hp => (hk p _ (tabs_at R.tb.1 hp).choose_spec).trans (R.tb.2 p hp)⟩, nt := R.nt, hf := fun q u e => by
            obtain ⟨o, ho⟩ := R.there e
            rw [hk q o ho]; exact R.hf q u e, sl := fun i v s e1 e2 => (R.sl i v s e1 e2).grow hF (hq _), ln := R.ln, tm := fun k w r e => (R.tm k w r e).grow hF (hq _) }
end

/-! ### data without lists -/
mutual
def pureD : D → Bool
  | .list _ => false
  | .dict _ => false
  | .tuple ds => pureAll ds
  | .none => true
  | .bool _ => true
  | .int _ => true
  | .str _ => true
def pureAll : List D → Bool
  | [] => true
  | d :: ds => pureD d && pureAll ds
end
section
variable {K : PySem.W.Frag} {F F' : Hp}
mutual
theorem dp_pure (e : ∀ a xs, TupN F a xs → TupN F' a xs) : ∀ {v : V} {d : D}, Dp K F v d → pureD d = true → Dp K F' v d
  | _, _, .non, _ => .non
  | _, _, .bl b, _ => .bl b
  | _, _, .int i, _ => .int i
  | _, _, .str x, _ => .str x
  | _, _, .lst _ _, h => by simp [pureD] at h
  | _, _, .tup h hs, hp => .tup (e _ _ h) (dps_pure e hs (by simpa [pureD] using hp))
theorem dps_pure (e : ∀ a xs, TupN F a xs → TupN F' a xs) : ∀ {vs : List V} {ds : List D}, DpAll K F vs ds → pureAll ds = true → DpAll K F' vs ds
  | _, _, .nil, _ => .nil
  | _, d :: ds, .cons h hs, hp => by
    have hp' : pureD d = true ∧ pureAll ds = true := by simpa [pureAll] using hp
    exact .cons (dp_pure e h hp'.1) (dps_pure e hs hp'.2)
end
end
/-- what a call gives -/
inductive Rv where
  | val (d : D)
  | own (o : MO)
def Rv.ret : Rv → Ret
  | .val d => .val d
  | .own o => .own o
def Rv.pure : Rv → Bool
  | .val d => pureD d
  | .own (.lst ds) => pureAll ds
  | .own _ => false
inductive FR where
  | ok (v : Rv)
  | ex (x : Exn)
  | no
def RetV (K : PySem.W.Frag) (F' H H' : Hp) (v : V) : Rv → Prop
  | .val d => Dp K F' v d
  | .own o => ∃ p ho, v = .ref p ∧ H p = none ∧ H' p = some ho ∧ MRep K F' ho o ∧ F' p = none
/-- a def's promise by a function of data -/
def spM (K : PySem.W.Frag) (cl : Cl) (g : List D → FR) : Sp := fun vs H Q Ex => ∃ F0 ds, TOk cl.T F0 H ∧ Same F0 H ∧ DpAll K F0 vs ds ∧ match g ds with
  | .ok r => ∀ v H' F', Stp cl.T H H' → Same F0 F' → Same F' H' → (∀ p o, H p = some o → F' p = F0 p) → RetV K F' H H' v r → Q v H'
  | .ex x => ∀ d H', Stp cl.T H H' → ExD H d H' x → Ex (.ref (cl x.c)) d H'
  | .no => False
section
variable {K : PySem.W.Frag} {cl : Cl} {C : Ctx} {F F' : Hp} {ρ ρ' : Own} {E E' : SEnv} {T T' : List (V × Ret)} {σ : St} {H H' : Hp} {i j k : Nat} {p : Addr} {v : V} {r : Ret} {o : MO} {d : D}
/-- a call's value is pushed -/
theorem RelF.push_ret {rv : Rv} (R : RelF K cl C F ρ E T σ H) (hH : Stp cl.T H H') (hF : Same F F') (hFH : Same F' H') (hk : ∀ p o, H p = some o → F' p = F p) (h : RetV K F' H H' v rv) : Rel K cl C E (T ++ [(v, rv.ret)]) σ H' ∧ Bor σ v rv.ret := by
  cases rv with
  | val d => exact ⟨((R.after hH hF hFH hk).push_val h).rel, trivial⟩
  | own o =>
    obtain ⟨p, ho, rfl, hn, h1, h2, h3⟩ := h
    have R1 := (R.retag hn (.t T.length)).after hH hF hFH hk
    refine ⟨RelF.rel (F := F') (ρ := fun q => if q = p then some (.t T.length) else ρ q) { len := R1.len, f0 := R1.f0, fh := R1.fh, h0 := R1.h0, hf := R1.hf, tb := R1.tb, nt := R1.nt, sl := R1.sl, ln := R1.ln, tm := fun k w r e => ?_ }, trivial⟩
    rcases at_snoc e with e2 | ⟨hk1, e2⟩
    · exact R1.tm k w r e2
    · cases e2
      subst hk1
      exact ⟨p, rfl, ⟨ho, h1, h2, h3, if_pos rfl⟩, R.new_H0 hn⟩
def dats (E : SEnv) : List Ret → Option (List D)
  | [] => some []
  | r :: rs => match dat E r, dats E rs with
    | some d, some ds => some (d :: ds)
    | _, _ => none
/-- data with own lists outside -/
inductive DpTs (K : PySem.W.Frag) (F H : Hp) : List V → List D → Prop
  | nil : DpTs K F H [] []
  | cons {v : V} {vs : List V} {d : D} {ds : List D} : DpT K F H v d → DpTs K F H vs ds → DpTs K F H (v :: vs) (d :: ds)
theorem RelF.dats (R : RelF K cl C F ρ E T' σ H) : ∀ {rs : List Ret} {vs : List V} {T : List (V × Ret)} {ds : List D}, T' = T ++ vs.zip rs → Bors σ vs rs → MP.dats E rs = some ds → DpTs K F H vs ds
  | [], [], _, _, _, _, h => by cases h; exact .nil
  | r :: rs, v :: vs, T, ds, e, b, h => by
    unfold MP.dats at h
    split at h
    · rename_i d ds' e1 e2
      cases h
      have at0 : T'[T.length]? = some (v, r) := by rw [e]; simp
      exact .cons (R.dat at0 b.1 e1) (RelF.dats (T := T ++ [(v, r)]) R (by rw [e]; simp) b.2 e2)
    · cases h
theorem dps_of_dpts (h : Same F H) : ∀ {vs : List V} {ds : List D}, DpTs K F H vs ds → DpAll K H vs ds
  | _, _, .nil => .nil
  | _, _, .cons a b => .cons (dp_of a h) (dps_of_dpts h b)
open Classical in
/-- the data of the call: the own lists that are handed in, too -/
noncomputable def lendF (F H : Hp) (vs : List V) : Hp := fun p => if V.ref p ∈ vs ∧ F p = none ∧ ∃ xs, H p = some (.lst xs) then H p else F p
open Classical in
noncomputable def backF (F H F3 : Hp) (vs : List V) : Hp := fun p => if V.ref p ∈ vs ∧ F p = none ∧ ∃ xs, H p = some (.lst xs) then none else F3 p
theorem lend_same {vs : List V} (h : Same F H) : Same (lendF F H vs) H := fun p o e => by
  unfold lendF at e
  split at e
  · exact e
  · exact h p o e
theorem lend_from {vs : List V} : Same F (lendF F H vs) := fun p o e => by
  unfold lendF
  rw [if_neg (fun z => by rw [z.2.1] at e; cases e)]
  exact e
theorem lend_tb {T : List (Addr × Str)} {vs : List V} (t : TOk T F H) : TOk T (lendF F H vs) H := ⟨t.1, fun p hp => by
  unfold lendF
  split
  · rename_i h
    obtain ⟨_, _, xs, e⟩ := h
    exact absurd hp (noT_no t.1 e fun _ z => by cases z)
  · exact t.2 p hp⟩
theorem lend_dp {vs : List V} {v : V} {d : D} (hv : v ∈ vs) (h : DpT K F H v d) (hs : Same F H) : Dp K (lendF F H vs) v d := by
  cases d with
  | list ds =>
    obtain ⟨a, xs, rfl, h1, h2⟩ := h
    refine .lst ?_ (dps_mono lend_from h2)
    rcases h1 with h1 | h1
    · exact L2.Same.seq lend_from h1
    · cases q : F a with
      | some u =>
        have := hs a u q
        rw [h1] at this; cases this
        exact SqL.of (lend_from _ _ q)
      | none =>
        refine SqL.of ?_
        unfold lendF
        rw [if_pos ⟨hv, q, xs, h1⟩]
        exact h1
  | none => exact dp_mono lend_from (show Dp K F v _ from h)
  | bool b => exact dp_mono lend_from (show Dp K F v _ from h)
  | int i => exact dp_mono lend_from (show Dp K F v _ from h)
  | str x => exact dp_mono lend_from (show Dp K F v _ from h)
  | tuple ds => exact dp_mono lend_from (show Dp K F v _ from h)
  | dict ds => exact dp_mono lend_from (show Dp K F v _ from h)
theorem lend_dps {vs0 : List V} (hs : Same F H) : ∀ {vs : List V} {ds : List D}, (∀ v ∈ vs, v ∈ vs0) → DpTs K F H vs ds → DpAll K (lendF F H vs0) vs ds
  | _, _, _, .nil => .nil
  | _, _, hv, .cons a b => .cons (lend_dp (hv _ List.mem_cons_self) a hs) (lend_dps hs (fun v h => hv v (List.mem_cons_of_mem _ h)) b)
/-- a call whose value bears no list: what was handed in stays one's own -/
theorem RelF.call_pure {rv : Rv} {F3 : Hp} {vs : List V} (R : RelF K cl C F ρ E T σ H) (hH : Stp cl.T H H') (h3 : Same (lendF F H vs) F3) (h4 : Same F3 H') (hk : ∀ p o, H p = some o → F3 p = lendF F H vs p) (h : RetV K F3 H H' v rv) (hp : rv.pure = true) :
    Rel K cl C E (T ++ [(v, rv.ret)]) σ H' ∧ Bor σ v rv.ret := by
  have sq : ∀ a xs, TupN F3 a xs → TupN (backF F H F3 vs) a xs := fun a xs ⟨ob, nob, q⟩ => by
    have key : ∀ u, F3 a = some u → (∀ zs, u ≠ .lst zs) → backF F H F3 vs a = some u := fun u e n => by
      unfold backF
      rw [if_neg (fun z => ?_)]
      · exact e
      · obtain ⟨z1, z2, zs, z3⟩ := z
        have := hk a _ z3
        unfold lendF at this
        rw [if_pos ⟨z1, z2, zs, z3⟩, z3, e] at this
        exact n zs (Option.some.inj this)
    exact ⟨ob, nob, key _ q fun _ z => nomatch z⟩
  refine R.push_ret (F' := backF F H F3 vs) hH (fun p o e => ?_) (fun p o e => ?_) (fun p o e => ?_) ?_
  · unfold backF
    rw [if_neg (fun z => by rw [z.2.1] at e; cases e)]
    exact h3 _ _ (lend_from _ _ e)
  · unfold backF at e
    split at e
    · cases e
    · exact h4 _ _ e
  · have := hk p o e
    unfold backF
    unfold lendF at this
    split
    · rename_i z; exact z.2.1.symm
    · rename_i z; rw [if_neg z] at this; exact this
  · cases rv with
    | val d => exact dp_pure sq h hp
    | own o => cases o with
      | dic _ => cases hp
      | dct _ => cases hp
      | raw _ => cases hp
      | lst ds =>
        obtain ⟨p, ho, rfl, hn, e1, ⟨ws, rfl, m⟩, e3⟩ := h
        refine ⟨p, _, rfl, hn, e1, ⟨ws, rfl, dps_pure sq m hp⟩, ?_⟩
        unfold backF
        rw [if_neg (fun z => by obtain ⟨_, _, xs, z3⟩ := z; rw [hn] at z3; cases z3)]
        exact e3
end
end MP

namespace MP
open PySem PySem.Spec L2

/-! ### judgements -/
section
variable (K : PySem.W.Frag) (cl : Cl) (W : WX) (C : Ctx) (T : List (V × Ret)) (σ : St)
/-- what is asked of a function's end: of its value, or of the wish for refusals -/
def Run {α : Type} (P : α → SEnv → Prop) : Res α → Prop
  | .ok a E' => P a E'
  | .ex x E' => ∀ d H', Rel K cl C E' T σ H' → ExD C.H0 d H' x → W (.ref (cl x.c)) d σ H'
  | .no => False
def RunS {α : Type} (P : α → SEnv → Prop) : Res α → Prop
  | .ok a E' => P a E'
  | .ex x E' => ∀ d σ' H', Rel K cl C E' T σ' H' → ExD C.H0 d H' x → W (.ref (cl x.c)) d σ' H'
  | .no => False
end
section
variable (K : PySem.W.Frag) (cl : Cl) (W : WX)
def tM (m : M Ret) : TE := fun σ H Q => ∃ C E T, Rel K cl C E T σ H ∧ Run K cl W C T σ (fun r E' => ∀ v H', Rel K cl C E' (T ++ [(v, r)]) σ H' → Bor σ v r → Q v H') (m E)
def tMT (m : M Bool) : TT := fun σ H Q => ∃ C E T, Rel K cl C E T σ H ∧ Run K cl W C T σ (fun b E' => ∀ H', Rel K cl C E' T σ H' → Q b H') (m E)
def tMA (m : M (List Ret)) : TA := fun σ H Q => ∃ C E T, Rel K cl C E T σ H ∧ Run K cl W C T σ (fun rs E' => ∀ vs H', Rel K cl C E' (T ++ vs.zip rs) σ H' → Bors σ vs rs → Q vs H') (m E)
def tMO (m : M (Option Int)) : TO := fun σ H Q => ∃ C E T, Rel K cl C E T σ H ∧ Run K cl W C T σ (fun o E' => ∀ H', Rel K cl C E' T σ H' → Q o H') (m E)
inductive Fl where
  | nx
  | rt (r : Ret)
  | bk
  | ct
def PostS (C : Ctx) (T : List (V × Ret)) (D : Ends) : Fl → SEnv → Prop
  | .nx, E' => ∀ σ' H', Rel K cl C E' T σ' H' → D.nx σ' H'
  | .rt r, E' => ∀ v σ' H', Rel K cl C E' (T ++ [(v, r)]) σ' H' → Bor σ' v r → D.rt v H'
  | .bk, E' => ∀ σ' H', Rel K cl C E' T σ' H' → D.bk σ' H'
  | .ct, E' => ∀ σ' H', Rel K cl C E' T σ' H' → D.ct σ' H'
def tMS (m : M Fl) : TS := fun D σ H => ∃ C E T, Rel K cl C E T σ H ∧ RunS K cl W C T (PostS K cl C T D) (m E)
end
section
variable {K : PySem.W.Frag} {cl : Cl} {W : WX} {C : Ctx} {T T' : List (V × Ret)} {σ : St} {α β : Type} {P P' : α → SEnv → Prop}
theorem Run.bind {Q : β → SEnv → Prop} {r : Res α} {f : α → SEnv → Res β} (h : Run K cl W C T σ Q (r.bind f)) : Run K cl W C T σ (fun a E => Run K cl W C T σ Q (f a E)) r := by
  cases r with
  | ok a E => exact h
  | ex x E => exact h
  | no => exact h
theorem RunS.bind {Q : β → SEnv → Prop} {r : Res α} {f : α → SEnv → Res β} (h : RunS K cl W C T Q (r.bind f)) : RunS K cl W C T (fun a E => RunS K cl W C T Q (f a E)) r := by
  cases r with
  | ok a E => exact h
  | ex x E => exact h
  | no => exact h
theorem Run.imp {r : Res α} (h : Run K cl W C T σ P r) (hp : ∀ a E, P a E → P' a E) : Run K cl W C T σ P' r := by
  cases r with
  | ok a E => exact hp a E h
  | ex x E => exact h
  | no => exact h
theorem Run.go {r : Res α} (h : Run K cl W C T σ P r) (hp : ∀ a E, P a E → P' a E) : Run K cl W C (T ++ T') σ P' r := by
  cases r with
  | ok a E => exact hp a E h
  | ex x E => exact fun d H' R => h d H' R.drop
  | no => exact h
theorem RunS.run {r : Res α} (h : RunS K cl W C T P r) (hp : ∀ a E, P a E → P' a E) : Run K cl W C T σ P' r := by
  cases r with
  | ok a E => exact hp a E h
  | ex x E => exact fun d H' R => h d σ H' R
  | no => exact h
theorem RunS.imp {r : Res α} (h : RunS K cl W C T P r) (hp : ∀ a E, P a E → P' a E) : RunS K cl W C T P' r := by
  cases r with
  | ok a E => exact hp a E h
  | ex x E => exact h
  | no => exact h
end
theorem PE.imp {X : Cx} {e : Expr} {t t' : TE} (h : PE X e t) (i : ∀ σ H Q, t' σ H Q → t σ H Q) : PE X e t' := ⟨fun p s σ H Q I q => h.run p s σ H Q I (i σ H Q q)⟩
theorem PT.imp {X : Cx} {e : Expr} {t t' : TT} (h : PT X e t) (i : ∀ σ H Q, t' σ H Q → t σ H Q) : PT X e t' := ⟨fun p s σ H Q I q => h.run p s σ H Q I (i σ H Q q)⟩
theorem PW.imp {X : Cx} {e : Expr} {t t' : TT} (h : PW X e t) (i : ∀ σ H Q, t' σ H Q → t σ H Q) : PW X e t' := ⟨fun w p s σ H Q I q => h.run w p s σ H Q I (i σ H Q q)⟩
theorem PA.imp {X : Cx} {e : List Expr} {t t' : TA} (h : PA X e t) (i : ∀ σ H Q, t' σ H Q → t σ H Q) : PA X e t' := ⟨fun po p s σ H Q I q => h.run po p s σ H Q I (i σ H Q q)⟩
theorem PO.imp {X : Cx} {e : Option Expr} {t t' : TO} (h : PO X e t) (i : ∀ σ H Q, t' σ H Q → t σ H Q) : PO X e t' := ⟨fun p s σ H Q I q => h.run p s σ H Q I (i σ H Q q)⟩
theorem PS.imp {X : Cx} {e : Stmt} {t t' : TS} (h : PS X e t) (i : ∀ D σ H, t' D σ H → t D σ H) : PS X e t' := ⟨fun p s σ H D I q => h.run p s σ H D I (i D σ H q)⟩
theorem PSs.imp {X : Cx} {e : List Stmt} {t t' : TS} (h : PSs X e t) (i : ∀ D σ H, t' D σ H → t D σ H) : PSs X e t' := ⟨fun p s σ H D I q => h.run p s σ H D I (i D σ H q)⟩

/-! ### values -/
def Gives (K : PySem.W.Frag) (F H : Hp) (Q : VK) : Rv → Prop
  | .val d => (∀ v, Dp K F v d → Q v H) ∧ ∀ ds p vs (ob : Obj), ob.dict = none → d = .tuple ds → H p = none → DpAll K F vs ds → Q (.ref p) (upd H p (.frz ob (.tup vs)))
  | .own o => ∀ p ho, H p = none → MRep K F ho o → Q (.ref p) (upd H p ho)
theorem gives {K : PySem.W.Frag} {cl : Cl} {C : Ctx} {F : Hp} {ρ : Own} {E : SEnv} {T T' : List (V × Ret)} {σ : St} {H : Hp} {Q : VK} {rv : Rv} (R : RelF K cl C F ρ E (T ++ T') σ H)
    (h : ∀ v H', Rel K cl C E (T ++ [(v, rv.ret)]) σ H' → Bor σ v rv.ret → Q v H') : Gives K F H Q rv := by
  cases rv with
  | val d =>
    refine ⟨fun v hv => h v H (R.drop.push_val hv).rel trivial, fun ds p vs ob nob e hn hd => ?_⟩
    subst e
    obtain ⟨R1, f1⟩ := R.drop.lay hn (.frz ob (.tup vs))
    exact h _ _ (R1.push_val (.tup (.new nob) (dps_mono f1 hd))).rel trivial
  | own o => exact fun p ho hn m => h _ _ (R.drop.push_own hn m).rel trivial
theorem Gives.bool {K : PySem.W.Frag} {F H : Hp} {Q : VK} {b : Bool} (h : Gives K F H Q (.val (.bool b))) : Q (.bl b) H := h.1 _ (.bl b)
theorem Gives.int {K : PySem.W.Frag} {F H : Hp} {Q : VK} {b : Int} (h : Gives K F H Q (.val (.int b))) : Q (.int b) H := h.1 _ (.int b)
theorem Gives.str {K : PySem.W.Frag} {F H : Hp} {Q : VK} {b : Str} (h : Gives K F H Q (.val (.str b))) : Q (.str b) H := h.1 _ (.str b)
theorem Gives.non {K : PySem.W.Frag} {F H : Hp} {Q : VK} (h : Gives K F H Q (.val .none)) : Q .non H := h.1 _ .non

/-- a two-place operation by data -/
def Op2 (K : PySem.W.Frag) (r : R2) (f : D → D → Option Rv) : Prop :=
  ∀ (F H : Hp) (x y : V) (a b : D) (rv : Rv) (Q : VK), Same F H → DpT K F H x a → DpT K F H y b → f a b = some rv → Gives K F H Q rv → r x y H Q
def Op1 (K : PySem.W.Frag) (r : V → Hp → VK → Prop) (f : D → Option Rv) : Prop :=
  ∀ (F H : Hp) (x : V) (a : D) (rv : Rv) (Q : VK), Same F H → DpT K F H x a → f a = some rv → Gives K F H Q rv → r x H Q
def OpN (K : PySem.W.Frag) (r : List V → Hp → VK → Prop) (f : List D → Option Rv) : Prop :=
  ∀ (F H : Hp) (xs : List V) (as : List D) (rv : Rv) (Q : VK), Same F H → DpTs K F H xs as → f as = some rv → Gives K F H Q rv → r xs H Q
def op2 (f : D → D → Option Rv) (E : SEnv) (r1 r2 : Ret) : Res Ret := match dat E r1, dat E r2 with
  | some a, some b => (match f a b with
    | some rv => .ok rv.ret E
    | none => .no)
  | _, _ => .no
def op1 (f : D → Option Rv) (E : SEnv) (r1 : Ret) : Res Ret := match dat E r1 with
  | some a => (match f a with
    | some rv => .ok rv.ret E
    | none => .no)
  | _ => .no
def opN (f : List D → Option Rv) (E : SEnv) (rs : List Ret) : Res Ret := match dats E rs with
  | some ds => (match f ds with
    | some rv => .ok rv.ret E
    | none => .no)
  | _ => .no
def m2 (f : D → D → Option Rv) (a b : M Ret) : M Ret := fun E => (a E).bind fun r1 E1 => (b E1).bind fun r2 E2 => op2 f E2 r1 r2
def m1 (f : D → Option Rv) (a : M Ret) : M Ret := fun E => (a E).bind fun r1 E1 => op1 f E1 r1
def mN (f : List D → Option Rv) (as : M (List Ret)) : M Ret := fun E => (as E).bind fun rs E1 => opN f E1 rs
def mA0 : M (List Ret) := fun E => .ok [] E
def mA1 (a : M Ret) (as : M (List Ret)) : M (List Ret) := fun E => (a E).bind fun r E1 => (as E1).bind fun rs E2 => .ok (r :: rs) E2

section
variable {K : PySem.W.Frag} {cl : Cl} {W : WX} {C : Ctx} {T T' : List (V × Ret)} {σ : St} {H : Hp} {E : SEnv}
theorem op2_run {P : Ret → SEnv → Prop} {f : D → D → Option Rv} {r1 r2 : Ret} (h : Run K cl W C T σ P (op2 f E r1 r2)) : ∃ a b rv, dat E r1 = some a ∧ dat E r2 = some b ∧ f a b = some rv ∧ P rv.ret E := by
  unfold op2 at h
  split at h
  · rename_i a b e1 e2
    split at h
    · rename_i rv e3
      exact ⟨a, b, rv, e1, e2, e3, h⟩
    · exact h.elim
  · exact h.elim
theorem op1_run {P : Ret → SEnv → Prop} {f : D → Option Rv} {r1 : Ret} (h : Run K cl W C T σ P (op1 f E r1)) : ∃ a rv, dat E r1 = some a ∧ f a = some rv ∧ P rv.ret E := by
  unfold op1 at h
  split at h
  · rename_i a e1
    split at h
    · rename_i rv e3
      exact ⟨a, rv, e1, e3, h⟩
    · exact h.elim
  · exact h.elim
theorem opN_run {P : Ret → SEnv → Prop} {f : List D → Option Rv} {rs : List Ret} (h : Run K cl W C T σ P (opN f E rs)) : ∃ as rv, dats E rs = some as ∧ f as = some rv ∧ P rv.ret E := by
  unfold opN at h
  split at h
  · rename_i a e1
    split at h
    · rename_i rv e3
      exact ⟨a, rv, e1, e3, h⟩
    · exact h.elim
  · exact h.elim
theorem tOp_of {r : R2} {f : D → D → Option Rv} {ma mb : M Ret} (hf : Op2 K r f) (σ : St) (H : Hp) (Q : VK) (h : tM K cl W (m2 f ma mb) σ H Q) : tOp r (tM K cl W ma) (tM K cl W mb) σ H Q := by
  obtain ⟨C, E, T, R, h⟩ := h
  refine ⟨C, E, T, R, (Run.bind h).imp fun r1 E1 h1 v1 H1 R1 b1 => ⟨C, E1, _, R1, (Run.bind h1).go fun r2 E2 h2 v2 H2 R2 b2 => ?_⟩⟩
  obtain ⟨a, b, rv, e1, e2, e3, p⟩ := op2_run h2
  obtain ⟨F, ρ, RF⟩ := R2
  have k1 : (T ++ [(v1, r1)] ++ [(v2, r2)])[T.length]? = some (v1, r1) := by simp
  have k2 : (T ++ [(v1, r1)] ++ [(v2, r2)])[T.length + 1]? = some (v2, r2) := by simp
  exact hf F H2 v1 v2 a b rv Q RF.fh (RF.dat k1 b1 e1) (RF.dat k2 b2 e2) e3 (gives (T' := [(v1, r1), (v2, r2)]) (by simpa using RF) p)
theorem tUn_of {r : V → Hp → VK → Prop} {f : D → Option Rv} {ma : M Ret} (hf : Op1 K r f) (σ : St) (H : Hp) (Q : VK) (h : tM K cl W (m1 f ma) σ H Q) : tUn r (tM K cl W ma) σ H Q := by
  obtain ⟨C, E, T, R, h⟩ := h
  refine ⟨C, E, T, R, (Run.bind h).imp fun r1 E1 h1 v1 H1 R1 b1 => ?_⟩
  obtain ⟨a, rv, e1, e3, p⟩ := op1_run h1
  obtain ⟨F, ρ, RF⟩ := R1
  have k1 : (T ++ [(v1, r1)])[T.length]? = some (v1, r1) := by simp
  exact hf F H1 v1 a rv Q RF.fh (RF.dat k1 b1 e1) e3 (gives RF p)
theorem tCB_of {r : List V → Hp → VK → Prop} {f : List D → Option Rv} {ms : M (List Ret)} (hf : OpN K r f) (σ : St) (H : Hp) (Q : VK) (h : tM K cl W (mN f ms) σ H Q) : tCB r (tMA K cl W ms) σ H Q := by
  obtain ⟨C, E, T, R, h⟩ := h
  refine ⟨C, E, T, R, (Run.bind h).imp fun rs E1 h1 vs H1 R1 b1 => ?_⟩
  obtain ⟨as, rv, e1, e3, p⟩ := opN_run h1
  obtain ⟨F, ρ, RF⟩ := R1
  exact hf F H1 vs as rv Q RF.fh (RF.dats rfl b1 e1) e3 (gives RF p)
end

/-! ### expressions -/
def mVar (i : Nat) : M Ret := fun E => match E[i]? with
  | some .un => .no
  | some _ => .ok (.bor i) E
  | none => .no
def mD (d : D) : M Ret := fun E => .ok (.val d) E
section
variable {X : Cx} {cl : Cl} {W : WX} {a b e : Expr} {es : List Expr} {pos : Pos} {ma mb mc m : M Ret} {ms : M (List Ret)}
theorem tVar_of {K : PySem.W.Frag} {i : Nat} (σ : St) (H : Hp) (Q : VK) (h : tM K cl W (mVar i) σ H Q) : tVar i σ H Q := by
  obtain ⟨C, E, T, ⟨F, ρ, R⟩, h⟩ := h
  unfold mVar at h
  split at h
  · exact h.elim
  · rename_i s n e
    obtain ⟨w, hw⟩ := slot_there R e
    have hs := R.sl i w s hw e
    have : ∃ x, w = some x := by
      cases s with
      | un => exact absurd rfl n
      | val d => obtain ⟨x, q, _⟩ := hs; exact ⟨x, q⟩
      | own o => obtain ⟨x, q, _⟩ := hs; exact ⟨_, q⟩
      | lnt o => obtain ⟨x, q, _⟩ := hs; exact ⟨_, q⟩
      | lck o => obtain ⟨x, _, q, _⟩ := hs; exact ⟨_, q⟩
      | exc o => obtain ⟨x, q, _⟩ := hs; exact ⟨_, q⟩
      | fn o => obtain ⟨x, _, q, _⟩ := hs; exact ⟨_, q⟩
      | nst b o => obtain ⟨x, q, _⟩ := hs; exact ⟨_, q⟩
    obtain ⟨x, rfl⟩ := this
    exact ⟨x, hw, h x H R.push_bor.rel hw⟩
  · exact h.elim
theorem den_var (i : Nat) {x : Str} (hN : X.N[i]? = some x := by rfl) (hv : Vis X.env.scope x := by first | exact Or.inl rfl | exact Or.inr (Or.inl rfl) | exact Or.inr (Or.inr rfl)) (hd : (x == ("__debug__" : Str)) = false := by decide)
    (hcd : (x == ("__classdict__" : Str)) = false := by decide) : PE X (.Name x pos) (tM X.K cl W (mVar i)) := PE.imp (pe_var hN hv hd hcd) tVar_of
theorem tC_of {K : PySem.W.Frag} {d : D} {v : V} (hd : ∀ F, Dp K F v d) (σ : St) (H : Hp) (Q : VK) (h : tM K cl W (mD d) σ H Q) : tC v σ H Q := by
  obtain ⟨C, E, T, ⟨F, ρ, R⟩, h⟩ := h
  exact h v H (R.push_val (hd F)).rel trivial
theorem den_int {i : Int} {j : Nat} : PE X (.Constant (.int i) j pos) (tM X.K cl W (mD (.int i))) := PE.imp pe_int (tC_of fun _ => .int i)
theorem den_bl {b : Bool} {j : Nat} : PE X (.Constant (.bool b) j pos) (tM X.K cl W (mD (.bool b))) := PE.imp pe_bl (tC_of fun _ => .bl b)
theorem den_non {j : Nat} : PE X (.Constant .none j pos) (tM X.K cl W (mD .none)) := PE.imp pe_non (tC_of fun _ => .non)
theorem den_str {x : Str} {j : Nat} : PE X (.Constant (.str x) j pos) (tM X.K cl W (mD (.str x))) := PE.imp pe_str (tC_of fun _ => .str x)
/-- a module's constant -/
theorem den_gint {x : Str} {i : Int} {t : Tok} (hg : Gl X x) (hm : X.mg x = some (.int i t)) (hd : (x == ("__debug__" : Str)) = false := by decide) : PE X (.Name x pos) (tM X.K cl W (mD (.int i))) := PE.imp (pe_glob hg hm (v := .int i) ⟨t, rfl⟩ hd) (tC_of fun _ => .int i)
theorem den_gstr {x y : Str} {t : Tok} (hg : Gl X x) (hm : X.mg x = some (.str y t)) (hd : (x == ("__debug__" : Str)) = false := by decide) : PE X (.Name x pos) (tM X.K cl W (mD (.str y))) := PE.imp (pe_glob hg hm (v := .str y) ⟨t, rfl⟩ hd) (tC_of fun _ => .str y)
theorem den_bin {op : Operator} {r : R2} {f : D → D → Option Rv} (hr : OpR X (binaryOp op) r) (hf : Op2 X.K r f) (ha : PE X a (tM X.K cl W ma)) (hb : PE X b (tM X.K cl W mb)) : PE X (.BinOp a op b pos) (tM X.K cl W (m2 f ma mb)) :=
  PE.imp (pe_op hr ha hb) (tOp_of hf)
theorem den_cmp {op : CmpOp} {r : R2} {f : D → D → Option Rv} (hr : OpR X (compareOp op) r) (hf : Op2 X.K r f) (ha : PE X a (tM X.K cl W ma)) (hb : PE X b (tM X.K cl W mb)) (hm : behindInMarks op b = false := by first | exact nomark _ | rfl) : PE X (.Compare a [op] [b] pos) (tM X.K cl W (m2 f ma mb)) :=
  PE.imp (pe_cmpR hr ha hb hm) (tOp_of hf)
theorem den_un {op : UnaryOp} {r : V → Hp → VK → Prop} {f : D → Option Rv} (hr : UnR X (unaryOp op) r) (hf : Op1 X.K r f) (ha : PE X a (tM X.K cl W ma)) : PE X (.UnaryOp op a pos) (tM X.K cl W (m1 f ma)) :=
  PE.imp (pe_un hr ha) (tUn_of hf)
theorem den_ix {r : R2} {f : D → D → Option Rv} (hr : IxR X r) (hf : Op2 X.K r f) (ha : PE X a (tM X.K cl W ma)) (hb : PE X b (tM X.K cl W mb)) (hs : PlainIx b := by exact fun _ _ => rfl) : PE X (.Subscript a b pos) (tM X.K cl W (m2 f ma mb)) :=
  PE.imp (pe_ix hr ha hb hs) (tOp_of hf)
theorem den_args0 : PA X [] (tMA X.K cl W mA0) := PA.imp pa_nil fun σ H Q h => by
  obtain ⟨C, E, T, R, h⟩ := h
  exact h [] H (by simpa using R) trivial
theorem den_args (ha : PE X e (tM X.K cl W ma)) (hr : PA X es (tMA X.K cl W ms)) (hs : starEach (e :: es) X.env = (false, eval e X.env) :: starEach es X.env := by rfl) : PA X (e :: es) (tMA X.K cl W (mA1 ma ms)) :=
  PA.imp (pa_cons ha hr hs) fun σ H Q h => by
    obtain ⟨C, E, T, R, h⟩ := h
    refine ⟨C, E, T, R, (Run.bind h).imp fun r1 E1 h1 v1 H1 R1 b1 => ⟨C, E1, _, R1, (Run.bind h1).go fun rs E2 h2 vs H2 R2 b2 => ?_⟩⟩
    exact h2 (v1 :: vs) H2 (by simpa using R2) ⟨b1, b2⟩
theorem den_callB {x : Str} {p : Pos} {id : String} {r : List V → Hp → VK → Prop} {f : List D → Option Rv} (hc : CallR X (.builtin id) r) (hf : OpN X.K r f) (hg : Gl X x) (hm : X.mg x = none) (hv : bootBuiltins x = some (.builtin id)) (ha : PA X (e :: es) (tMA X.K cl W ms))
    (hn : x ≠ "__name__" := by decide) (hdb : (x == ("__debug__" : Str)) = false := by decide) (he : starEach (e :: es) X.env = (false, eval e X.env) :: starEach es X.env := by rfl) (hpl : (backTo pos (starEach es X.env)).any (·.1) = false := by rfl) :
    PE X (.Call (.Name x p) (e :: es) [] pos) (tM X.K cl W (mN f ms)) := PE.imp (pe_callB hc hg hm hv ha hn hdb he hpl) (tCB_of hf)
theorem den_callTy {x : Str} {p : Pos} {id : String} {r : List V → Hp → VK → Prop} {f : List D → Option Rv} (hc : CallR X (.type id) r) (hf : OpN X.K r f) (hg : Gl X x) (hm : X.mg x = none) (hv : bootBuiltins x = some (.type id)) (ha : PA X (e :: es) (tMA X.K cl W ms))
    (hn : x ≠ "__name__" := by decide) (hdb : (x == ("__debug__" : Str)) = false := by decide) (he : starEach (e :: es) X.env = (false, eval e X.env) :: starEach es X.env := by rfl) (hpl : (backTo pos (starEach es X.env)).any (·.1) = false := by rfl) :
    PE X (.Call (.Name x p) (e :: es) [] pos) (tM X.K cl W (mN f ms)) := PE.imp (pe_callTy hc hg hm hv ha hn hdb he hpl) (tCB_of hf)

/-! ### displays -/
/-- what is kept by a new object -/
def mKeep (f : List D → Option Rv) (as : M (List Ret)) : M Ret := fun E => (as E).bind fun rs E1 => match takes E1 rs with
  | some (ds, E2) => (match f ds with
    | some rv => .ok rv.ret E2
    | none => .no)
  | none => .no
def tupF (ds : List D) : Option Rv := if ds.length ≤ 1000 then some (.val (.tuple ds)) else none
def lstF (ds : List D) : Option Rv := if ds.length ≤ 1000 then some (.own (.lst ds)) else none
def mTup (as : M (List Ret)) : M Ret := mKeep tupF as
def mLst (as : M (List Ret)) : M Ret := mKeep lstF as
theorem le1000 {n : Nat} (h : n ≤ 1000) : n ≤ sizeLine := Nat.le_of_lt (small1000 h)
theorem keep_run {K : PySem.W.Frag} {C : Ctx} {T : List (V × Ret)} {σ : St} {H : Hp} {E : SEnv} {f : List D → Option Rv} {rs : List Ret} {vs : List V} {P : Ret → SEnv → Prop} (R : Rel K cl C E (T ++ vs.zip rs) σ H) (b : Bors σ vs rs)
    (h : Run K cl W C T σ P (match takes E rs with
      | some (ds, E2) => (match f ds with
        | some rv => .ok rv.ret E2
        | none => .no)
      | none => .no)) : ∃ F ρ ds E2 rv, RelF K cl C F ρ E2 T σ H ∧ DpAll K F vs ds ∧ f ds = some rv ∧ P rv.ret E2 := by
  obtain ⟨F, ρ, RF⟩ := R
  split at h
  · rename_i ds E2 e1
    split at h
    · rename_i rv e2
      obtain ⟨F', _, R', h'⟩ := RF.takes b e1
      exact ⟨F', ρ, ds, E2, rv, R', h', e2, h⟩
    · exact h.elim
  · exact h.elim
theorem den_lst (ha : PA X es (tMA X.K cl W ms)) : PE X (.List es pos) (tM X.K cl W (mLst ms)) := PE.imp (pe_lst ha) fun σ H Q h => by
  obtain ⟨C, E, T, R, h⟩ := h
  refine ⟨C, E, T, R, (Run.bind h).imp fun rs E1 h1 vs H1 R1 b1 => ?_⟩
  obtain ⟨F, ρ, ds, E2, rv, RF, hd, e, p⟩ := keep_run R1 b1 h1
  unfold lstF at e
  split at e
  · rename_i hl
    cases e
    refine ⟨by rw [dps_len hd]; exact le1000 hl, fun q hq => ?_⟩
    exact (gives (T' := []) (rv := .own (.lst ds)) (by simpa using RF) p) q _ hq ⟨vs, rfl, hd⟩
  · cases e
theorem den_dict0 : PE X (.Dict [] [] pos) (tM X.K cl W fun E => .ok (.own (.dic [])) E) := PE.imp pe_dnewK fun σ H Q h p hp => by
  obtain ⟨C, E, T, ⟨F, ρ, R⟩, h⟩ := h
  exact (gives (T' := []) (rv := .own (.dic [])) (by simpa using R) h) p _ hp ⟨[], rfl, .nil⟩
theorem den_dict0T : PE X (.Dict [] [] pos) (tM X.K cl W fun E => .ok (.own (.dct [])) E) := PE.imp pe_dnewT fun σ H Q h p hp => by
  obtain ⟨C, E, T, ⟨F, ρ, R⟩, h⟩ := h
  exact (gives (T' := []) (rv := .own (.dct [])) (by simpa using R) h) p _ hp ⟨[], rfl, .nil⟩
end
end MP

namespace MP
open PySem PySem.Spec L2

/-! ### tests -/
noncomputable def truD : D → Option Bool
  | .none => some false
  | .bool b => some b
  | .int i => some (i != 0)
  | .str s => if Ok (s.length ≤ sizeLine) then some ((s.length : Int) != 0) else none
  | .list ds => some (!ds.isEmpty)
  | .tuple ds => some (!ds.isEmpty)
  | .dict _ => none
/-- an expression's truth -/
noncomputable def mTru (m : M Ret) : M Bool := fun E => (m E).bind fun r E1 => match dat E1 r with
  | some d => (match truD d with
    | some b => .ok b E1
    | none => .no)
  | none => .no
/-- an expression that is True or False, as a test -/
def mBl (m : M Ret) : M Bool := fun E => (m E).bind fun r E1 => match dat E1 r with
  | some (.bool b) => .ok b E1
  | _ => .no
def mAnd (a b : M Bool) : M Bool := fun E => (a E).bind fun c E1 => if c = true then b E1 else .ok false E1
def mOr (a b : M Bool) : M Bool := fun E => (a E).bind fun c E1 => if c = true then .ok true E1 else b E1
def mNot (a : M Bool) : M Bool := fun E => (a E).bind fun c E1 => .ok (!c) E1
/-- values, all but the last True or False -/
def mAndV (a b : M Ret) : M Ret := fun E => (mBl a E).bind fun c E1 => if c = true then b E1 else .ok (.val (.bool false)) E1
def mOrV (a b : M Ret) : M Ret := fun E => (mBl a E).bind fun c E1 => if c = true then .ok (.val (.bool true)) E1 else b E1
def mNotV (a : M Ret) : M Ret := fun E => (mBl a E).bind fun c E1 => .ok (.val (.bool (!c))) E1
def mIfE (c : M Bool) (a b : M Ret) : M Ret := fun E => (c E).bind fun k E1 => if k = true then a E1 else b E1
theorem isEmpty_dps {K : PySem.W.Frag} {F : Hp} : ∀ {vs : List V} {ds : List D}, DpAll K F vs ds → vs.isEmpty = ds.isEmpty
  | _, _, .nil => rfl
  | _, _, .cons _ _ => rfl
theorem tru_of {K : PySem.W.Frag} {F H : Hp} {v : V} {d : D} {b : Bool} (hs : Same F H) (h : DpT K F H v d) (e : truD d = some b) : TruV K v H b := by
  cases d with
  | list ds =>
    obtain ⟨a, xs, rfl, h1, h2⟩ := h
    cases e
    exact .inl ⟨xs, sql_or hs h1, by rw [isEmpty_dps h2]⟩
  | none => cases (show Dp K F v _ from h); cases e; rfl
  | bool b => cases (show Dp K F v _ from h); cases e; rfl
  | int i => cases (show Dp K F v _ from h); cases e; rfl
  | str x =>
    cases (show Dp K F v _ from h)
    dsimp only [truD] at e
    split at e
    · rename_i hl; cases e; exact ⟨hl, rfl⟩
    · cases e
  | tuple ds =>
    cases (show Dp K F v _ from h) with
    | tup h1 h2 =>
      cases e
      exact .inr (.inl ⟨_, (h1.mono hs).sq, by rw [isEmpty_dps h2]⟩)
  | dict _ => cases e
section
variable {X : Cx} {cl : Cl} {W : WX} {a b c e : Expr} {es : List Expr} {pos : Pos} {ma mb m : M Ret} {ms : M (List Ret)} {ta tb tc : M Bool}
theorem den_tru (ha : PE X a (tM X.K cl W ma)) (he : ∀ whole, isTrue a X.env whole = (do let v ← whole; standAt a.pos; holding [v] (truthy v)) := by exact fun _ => rfl) : PT X a (tMT X.K cl W (mTru ma)) :=
  PT.imp (pt_truth ha he) fun σ H Q h => by
    obtain ⟨C, E, T, R, h⟩ := h
    refine ⟨C, E, T, R, (Run.bind h).imp fun r1 E1 h1 v1 H1 R1 b1 => ?_⟩
    split at h1
    · rename_i d e1
      split at h1
      · rename_i k e2
        obtain ⟨F, ρ, RF⟩ := id R1
        exact ⟨k, tru_of RF.fh (RF.dat (k := T.length) (by simp) b1 e1) e2, h1 H1 R1.drop⟩
      · exact h1.elim
    · exact h1.elim
theorem bl_run {K : PySem.W.Frag} {C : Ctx} {T : List (V × Ret)} {σ : St} {P : Bool → SEnv → Prop} {E : SEnv} (h : Run K cl W C T σ P (mBl ma E)) :
    Run K cl W C T σ (fun r E1 => ∃ b, dat E1 r = some (.bool b) ∧ P b E1) (ma E) := (Run.bind h).imp fun r E1 h1 => by
  split at h1
  · rename_i k e1; exact ⟨k, e1, h1⟩
  · exact h1.elim
theorem dat_bl {K : PySem.W.Frag} {C : Ctx} {T : List (V × Ret)} {σ : St} {E : SEnv} {H : Hp} {v : V} {r : Ret} {k : Bool} (R : Rel K cl C E (T ++ [(v, r)]) σ H) (b : Bor σ v r) (e : dat E r = some (.bool k)) : v = .bl k := by
  obtain ⟨F, ρ, RF⟩ := R
  cases (show Dp K F v (.bool k) from RF.dat (k := T.length) (by simp) b e)
  rfl
theorem den_blt (ha : PE X a (tM X.K cl W ma)) (he : ∀ whole, isTrue a X.env whole = (do let v ← whole; standAt a.pos; holding [v] (truthy v)) := by exact fun _ => rfl) : PT X a (tMT X.K cl W (mBl ma)) :=
  PT.imp (pt_val ha he) fun σ H Q h => by
    obtain ⟨C, E, T, R, h⟩ := h
    exact ⟨C, E, T, R, (bl_run h).imp fun r1 E1 ⟨k, e1, h1⟩ v1 H1 R1 b1 => ⟨k, dat_bl R1 b1 e1, h1 H1 R1.drop⟩⟩
/-- a comparison as a test -/
theorem den_cmpt {op : CmpOp} {r : R2} {f : D → D → Option Rv} (hr : OpR X (compareOp op) r) (hf : Op2 X.K r f) (ha : PE X a (tM X.K cl W ma)) (hb : PE X b (tM X.K cl W mb)) (hm : behindInMarks op b = false := by first | exact nomark _ | rfl) : PT X (.Compare a [op] [b] pos) (tMT X.K cl W (mBl (m2 f ma mb))) :=
  PT.imp (pt_cmpR hr ha hb hm) fun σ H Q h => by
    obtain ⟨C, E, T, R, h⟩ := h
    have h2 := bl_run h
    exact tOp_of hf σ H _ ⟨C, E, T, R, h2.imp fun r1 E1 ⟨k, e1, h1⟩ v1 H1 R1 b1 => ⟨k, dat_bl R1 b1 e1, h1 H1 R1.drop⟩⟩
theorem den_not (ha : PT X a (tMT X.K cl W ta)) : PT X (.UnaryOp .Not a pos) (tMT X.K cl W (mNot ta)) := PT.imp (pt_not ha) fun σ H Q h => by
  obtain ⟨C, E, T, R, h⟩ := h
  exact ⟨C, E, T, R, (Run.bind h).imp fun k E1 h1 H1 R1 => h1 H1 R1⟩
theorem den_and1 (ha : PT X a (tMT X.K cl W ta)) : PW X (.BoolOp .And [a] pos) (tMT X.K cl W ta) := pw_and1 ha
theorem den_or1 (ha : PT X a (tMT X.K cl W ta)) : PW X (.BoolOp .Or [a] pos) (tMT X.K cl W ta) := pw_or1 ha
theorem den_and (ha : PT X a (tMT X.K cl W ta)) (hb : PW X (.BoolOp .And (b :: es) pos) (tMT X.K cl W tb)) : PW X (.BoolOp .And (a :: b :: es) pos) (tMT X.K cl W (mAnd ta tb)) := PW.imp (pw_and ha hb) fun σ H Q h => by
  obtain ⟨C, E, T, R, h⟩ := h
  refine ⟨C, E, T, R, (Run.bind h).imp fun k E1 h1 H1 R1 => ?_⟩
  by_cases hk : k = true
  · rw [if_pos hk] at h1 ⊢
    exact ⟨C, E1, T, R1, h1⟩
  · rw [if_neg hk] at h1 ⊢
    exact h1 H1 R1
theorem den_or (ha : PT X a (tMT X.K cl W ta)) (hb : PW X (.BoolOp .Or (b :: es) pos) (tMT X.K cl W tb)) : PW X (.BoolOp .Or (a :: b :: es) pos) (tMT X.K cl W (mOr ta tb)) := PW.imp (pw_or ha hb) fun σ H Q h => by
  obtain ⟨C, E, T, R, h⟩ := h
  refine ⟨C, E, T, R, (Run.bind h).imp fun k E1 h1 H1 R1 => ?_⟩
  by_cases hk : k = true
  · rw [if_pos hk] at h1 ⊢
    exact h1 H1 R1
  · rw [if_neg hk] at h1 ⊢
    exact ⟨C, E1, T, R1, h1⟩
theorem den_one {op : BoolOp} (ha : PE X a (tM X.K cl W ma)) : PE X (.BoolOp op [a] pos) (tM X.K cl W ma) := pe_one ha
theorem den_andV (ha : PE X a (tM X.K cl W ma)) (hb : PE X (.BoolOp .And (b :: es) pos) (tM X.K cl W mb)) : PE X (.BoolOp .And (a :: b :: es) pos) (tM X.K cl W (mAndV ma mb)) := PE.imp (pe_and ha hb) fun σ H Q h => by
  obtain ⟨C, E, T, R, h⟩ := h
  refine ⟨C, E, T, R, (bl_run (Run.bind h)).imp fun r1 E1 ⟨k, e1, h1⟩ v1 H1 R1 b1 => ⟨k, dat_bl R1 b1 e1, ?_⟩⟩
  by_cases hk : k = true
  · rw [if_pos hk] at h1 ⊢
    exact ⟨C, E1, T, R1.drop, h1⟩
  · rw [if_neg hk] at h1 ⊢
    obtain ⟨F, ρ, RF⟩ := R1
    exact h1 _ H1 (RF.drop.push_val (.bl false)).rel trivial
theorem den_orV (ha : PE X a (tM X.K cl W ma)) (hb : PE X (.BoolOp .Or (b :: es) pos) (tM X.K cl W mb)) : PE X (.BoolOp .Or (a :: b :: es) pos) (tM X.K cl W (mOrV ma mb)) := PE.imp (pe_or ha hb) fun σ H Q h => by
  obtain ⟨C, E, T, R, h⟩ := h
  refine ⟨C, E, T, R, (bl_run (Run.bind h)).imp fun r1 E1 ⟨k, e1, h1⟩ v1 H1 R1 b1 => ⟨k, dat_bl R1 b1 e1, ?_⟩⟩
  by_cases hk : k = true
  · rw [if_pos hk] at h1 ⊢
    obtain ⟨F, ρ, RF⟩ := R1
    exact h1 _ H1 (RF.drop.push_val (.bl true)).rel trivial
  · rw [if_neg hk] at h1 ⊢
    exact ⟨C, E1, T, R1.drop, h1⟩
theorem den_notV (ha : PE X a (tM X.K cl W ma)) : PE X (.UnaryOp .Not a pos) (tM X.K cl W (mNotV ma)) := PE.imp (pe_not ha) fun σ H Q h => by
  obtain ⟨C, E, T, R, h⟩ := h
  refine ⟨C, E, T, R, (bl_run (Run.bind h)).imp fun r1 E1 ⟨k, e1, h1⟩ v1 H1 R1 b1 => ⟨k, dat_bl R1 b1 e1, ?_⟩⟩
  obtain ⟨F, ρ, RF⟩ := R1
  exact h1 _ H1 (RF.drop.push_val (.bl (!k))).rel trivial
/-- not of a test, as a value -/
def mOfT (t : M Bool) : M Ret := fun E => (t E).bind fun c E1 => .ok (.val (.bool c)) E1
theorem den_ifE (hc : PT X c (tMT X.K cl W tc)) (ha : PE X a (tM X.K cl W ma)) (hb : PE X b (tM X.K cl W mb)) : PE X (.IfExp c a b pos) (tM X.K cl W (mIfE tc ma mb)) := PE.imp (pe_ifExp hc ha hb) fun σ H Q h => by
  obtain ⟨C, E, T, R, h⟩ := h
  refine ⟨C, E, T, R, (Run.bind h).imp fun k E1 h1 H1 R1 => ?_⟩
  by_cases hk : k = true
  · rw [if_pos hk] at h1 ⊢
    exact ⟨C, E1, T, R1, h1⟩
  · rw [if_neg hk] at h1 ⊢
    exact ⟨C, E1, T, R1, h1⟩
/-- is None -/
def isNon : D → Bool
  | .none => true
  | _ => false
def isNF (a : D) : Option Rv := some (.val (.bool (isNon a)))
def notNF (a : D) : Option Rv := some (.val (.bool (!isNon a)))
theorem dpt_non {K : PySem.W.Frag} {F H : Hp} {v : V} {a : D} (h : DpT K F H v a) : decide (v = .non) = isNon a := by
  cases a with
  | list ds => obtain ⟨q, xs, rfl, _⟩ := h; rfl
  | none => cases (show Dp K F v _ from h); rfl
  | bool b => cases (show Dp K F v _ from h); rfl
  | int b => cases (show Dp K F v _ from h); rfl
  | str b => cases (show Dp K F v _ from h); rfl
  | tuple b => cases (show Dp K F v _ from h); rfl
  | dict b => cases (show Dp K F v _ from h)
theorem den_isN {j : Nat} {p : Pos} (ha : PE X a (tM X.K cl W ma)) : PE X (.Compare a [.Is] [.Constant .none j p] pos) (tM X.K cl W (m1 isNF ma)) := PE.imp (pe_cmp (pc_isN ha) rfl) fun σ H Q h =>
  tUn_of (r := fun x H Q => Q (.bl (decide (x = .non))) H) (f := isNF) (fun F H x a rv Q hs hd e g => by cases e; rw [dpt_non hd]; exact g.bool) σ H Q h
theorem den_notN {j : Nat} {p : Pos} (ha : PE X a (tM X.K cl W ma)) : PE X (.Compare a [.IsNot] [.Constant .none j p] pos) (tM X.K cl W (m1 notNF ma)) := PE.imp (pe_cmp (pc_notN ha) rfl) fun σ H Q h =>
  tUn_of (r := fun x H Q => Q (.bl (!decide (x = .non))) H) (f := notNF) (fun F H x a rv Q hs hd e g => by cases e; rw [dpt_non hd]; exact g.bool) σ H Q h
end

/-! ### is None of what a name holds, a refusal too -/
def mIsNE (i : Nat) : M Ret := fun E => match E[i]? with
  | some (.exc _) => .ok (.val (.bool false)) E
  | some (.val d) => .ok (.val (.bool (isNon d))) E
  | _ => .no
def mNotNE (i : Nat) : M Ret := fun E => match E[i]? with
  | some (.exc _) => .ok (.val (.bool true)) E
  | some (.val d) => .ok (.val (.bool (!isNon d))) E
  | _ => .no
section
variable {X : Cx} {cl : Cl} {W : WX} {pos : Pos}
theorem den_isNE (i : Nat) {x : Str} {j : Nat} {p q : Pos} (hN : X.N[i]? = some x := by rfl) (hv : Vis X.env.scope x := by first | exact Or.inl rfl | exact Or.inr (Or.inl rfl) | exact Or.inr (Or.inr rfl)) (hd : (x == ("__debug__" : Str)) = false := by decide)
    (hcd : (x == ("__classdict__" : Str)) = false := by decide) : PE X (.Compare (.Name x q) [.Is] [.Constant .none j p] pos) (tM X.K cl W (mIsNE i)) := PE.imp (pe_cmp (pc_isN (pe_var hN hv hd hcd)) rfl) fun σ H Q h => by
  obtain ⟨C, E, T, ⟨F, ρ, R⟩, h⟩ := h
  unfold mIsNE at h
  split at h
  · rename_i x e
    obtain ⟨w, hw⟩ := slot_there R e
    obtain ⟨a, rfl, _⟩ := R.sl i w _ hw e
    exact ⟨.ref a, hw, h (.bl false) H (R.push_val (.bl false)).rel trivial⟩
  · rename_i d e
    obtain ⟨w, hw⟩ := slot_there R e
    obtain ⟨a, rfl, hd⟩ := R.sl i w _ hw e
    refine ⟨a, hw, ?_⟩
    show Q (.bl (decide (a = .non))) H
    rw [dpt_non (dpt_of hd R.fh)]
    exact h _ H (R.push_val (.bl _)).rel trivial
  · exact h.elim
theorem den_notNE (i : Nat) {x : Str} {j : Nat} {p q : Pos} (hN : X.N[i]? = some x := by rfl) (hv : Vis X.env.scope x := by first | exact Or.inl rfl | exact Or.inr (Or.inl rfl) | exact Or.inr (Or.inr rfl)) (hd : (x == ("__debug__" : Str)) = false := by decide)
    (hcd : (x == ("__classdict__" : Str)) = false := by decide) : PE X (.Compare (.Name x q) [.IsNot] [.Constant .none j p] pos) (tM X.K cl W (mNotNE i)) := PE.imp (pe_cmp (pc_notN (pe_var hN hv hd hcd)) rfl) fun σ H Q h => by
  obtain ⟨C, E, T, ⟨F, ρ, R⟩, h⟩ := h
  unfold mNotNE at h
  split at h
  · rename_i x e
    obtain ⟨w, hw⟩ := slot_there R e
    obtain ⟨a, rfl, _⟩ := R.sl i w _ hw e
    exact ⟨.ref a, hw, h (.bl true) H (R.push_val (.bl true)).rel trivial⟩
  · rename_i d e
    obtain ⟨w, hw⟩ := slot_there R e
    obtain ⟨a, rfl, hd⟩ := R.sl i w _ hw e
    refine ⟨a, hw, ?_⟩
    show Q (.bl (!decide (a = .non))) H
    rw [dpt_non (dpt_of hd R.fh)]
    exact h _ H (R.push_val (.bl _)).rel trivial
  · exact h.elim
end

/-! ### statements -/
def mNx : M Fl := fun E => .ok .nx E
def mSeq (a b : M Fl) : M Fl := fun E => (a E).bind fun f E1 => match f with
  | .nx => b E1
  | f => .ok f E1
def mExp (a : M Ret) : M Fl := fun E => (a E).bind fun _ E1 => .ok .nx E1
def mTo (g : Ret → SEnv → Option SEnv) (a : M Ret) : M Fl := fun E => (a E).bind fun r E1 => match g r E1 with
  | some E2 => .ok .nx E2
  | none => .no
def mSet (i : Nat) (a : M Ret) : M Fl := mTo (mStore i) a
def mIf (c : M Bool) (a b : M Fl) : M Fl := fun E => (c E).bind fun k E1 => if k = true then a E1 else b E1
def mRet (a : M Ret) : M Fl := fun E => (a E).bind fun r E1 => .ok (.rt r) E1
def mRetN : M Fl := fun E => .ok (.rt (.val .none)) E
def mBrk : M Fl := fun E => .ok .bk E
def mCnt : M Fl := fun E => .ok .ct E
def mNever : M Fl := fun _ => .no
section
variable {K : PySem.W.Frag} {cl : Cl} {W : WX}
/-- an expression first, then what a statement does with it -/
theorem tS_first {a : M Ret} {f : Ret → SEnv → Res Fl} {D : Ends} {σ : St} {H : Hp} (h : tMS K cl W (fun E => (a E).bind f) D σ H) :
    tM K cl W a σ H fun v H1 => ∃ C T r E1, Rel K cl C E1 (T ++ [(v, r)]) σ H1 ∧ Bor σ v r ∧ RunS K cl W C T (PostS K cl C T D) (f r E1) := by
  obtain ⟨C, E, T, R, h⟩ := h
  exact ⟨C, E, T, R, (RunS.bind h).run fun r E1 h1 v1 H1 R1 b1 => ⟨C, T, r, E1, R1, b1, h1⟩⟩
end
section
variable {X : Cx} {cl : Cl} {W : WX} {st : Stmt} {rest : List Stmt} {c e : Expr} {pos : Pos} {ma : M Ret} {tc : M Bool} {m n : M Fl}
theorem den_nil : PSs X [] (tMS X.K cl W mNx) := PSs.imp pss_nil fun D σ H h => by
  obtain ⟨C, E, T, R, h⟩ := h
  exact h σ H R
theorem den_pass : PS X (.Pass pos) (tMS X.K cl W mNx) := PS.imp ps_pass fun D σ H h => by
  obtain ⟨C, E, T, R, h⟩ := h
  exact h σ H R
theorem den_cons (h1 : PS X st (tMS X.K cl W m)) (h2 : PSs X rest (tMS X.K cl W n)) : PSs X (st :: rest) (tMS X.K cl W (mSeq m n)) := PSs.imp (pss_cons h1 h2) fun D σ H h => by
  obtain ⟨C, E, T, R, h⟩ := h
  refine ⟨C, E, T, R, (RunS.bind h).imp fun f E1 h1 => ?_⟩
  cases f with
  | nx => exact fun σ' H' R' => ⟨C, E1, T, R', h1⟩
  | rt r => exact h1
  | bk => exact h1
  | ct => exact h1
theorem den_last (h1 : PS X st (tMS X.K cl W m)) : PSs X [st] (tMS X.K cl W m) := pss_one h1
theorem den_expr (he : PE X e (tM X.K cl W ma)) (hs : swapsWith e none pos.line X.env = pure false := by rfl) : PS X (.Expr e pos) (tMS X.K cl W (mExp ma)) := PS.imp (ps_expr he hs) fun D σ H h => by
  obtain ⟨C, E, T, R, h⟩ := h
  exact ⟨C, E, T, R, (RunS.bind h).run fun r E1 h1 v1 H1 R1 b1 => h1 σ H1 R1.drop⟩
theorem den_ret (he : PE X e (tM X.K cl W ma)) : PS X (.Return (some e) pos) (tMS X.K cl W (mRet ma)) := PS.imp (ps_ret he) fun D σ H h => by
  obtain ⟨C, E, T, R, h⟩ := h
  exact ⟨C, E, T, R, (RunS.bind h).run fun r E1 h1 v1 H1 R1 b1 => h1 v1 σ H1 R1 b1⟩
theorem den_retN : PS X (.Return none pos) (tMS X.K cl W mRetN) := PS.imp ps_retN fun D σ H h => by
  obtain ⟨C, E, T, ⟨F, ρ, R⟩, h⟩ := h
  exact h .non σ H (R.push_val .non).rel trivial
theorem den_brk : PS X (.Break pos) (tMS X.K cl W mBrk) := PS.imp ps_break fun D σ H h => by
  obtain ⟨C, E, T, R, h⟩ := h
  exact h σ H R
theorem den_cnt : PS X (.Continue pos) (tMS X.K cl W mCnt) := PS.imp ps_continue fun D σ H h => by
  obtain ⟨C, E, T, R, h⟩ := h
  exact h σ H R
theorem den_if {as bs : List Stmt} (hc : PT X c (tMT X.K cl W tc)) (ha : PSs X as (tMS X.K cl W m)) (hb : PSs X bs (tMS X.K cl W n)) : PS X (.If c as bs pos) (tMS X.K cl W (mIf tc m n)) := PS.imp (ps_if hc ha hb) fun D σ H h => by
  obtain ⟨C, E, T, R, h⟩ := h
  refine ⟨C, E, T, R, (RunS.bind h).run fun k E1 h1 H1 R1 => ?_⟩
  by_cases hk : k = true
  · rw [if_pos hk] at h1 ⊢
    exact ⟨C, E1, T, R1, h1⟩
  · rw [if_neg hk] at h1 ⊢
    exact ⟨C, E1, T, R1, h1⟩
/-! ### targets -/
/-- what a target does with data -/
abbrev MG := Ret → SEnv → Option SEnv
def tMG (K : PySem.W.Frag) (cl : Cl) (g : MG) : TG := fun v σ H Q => ∃ C E T r, Rel K cl C E (T ++ [(v, r)]) σ H ∧ Bor σ v r ∧ ∃ E', g r E = some E' ∧ ∀ σ' H', Rel K cl C E' T σ' H' → Q σ' H'
theorem PG.imp {X : Cx} {e : Expr} {t t' : TG} (h : PG X e t) (i : ∀ v σ H Q, t' v σ H Q → t v σ H Q) : PG X e t' := ⟨fun p s σ H v u Q I r q => h.run p s σ H v u Q I r (i v σ H Q q)⟩
theorem den_tname (i : Nat) {x : Str} (hN : X.N.Nodup) (hi : X.N[i]? = some x := by rfl) (hx : Loc X.env.scope x := by first | exact Or.inl rfl | exact Or.inr rfl) (hf : X.fn x = true ∨ X.env.scope.names.lookup x = some .local := by first | exact .inl rfl | exact .inr rfl) : PG X (.Name x pos) (tMG X.K cl (mStore i)) :=
  PG.imp (pg_name hN hi hx hf) fun v σ H Q h => by
    obtain ⟨C, E, T, r, ⟨F, ρ, R⟩, b, E', e, h⟩ := h
    obtain ⟨F', ρ', _, R'⟩ := R.store b e
    exact h _ _ R'.rel
/-- several targets take the items of data -/
def tMGs (K : PySem.W.Frag) (cl : Cl) (g : List D → SEnv → Option SEnv) : TGs := fun vs σ H Q => ∃ C E T ds, Rel K cl C E (T ++ vs.zip (ds.map Ret.val)) σ H ∧ vs.length = ds.length ∧ ∃ E', g ds E = some E' ∧ ∀ σ' H', Rel K cl C E' T σ' H' → Q σ' H'
def gs0 : List D → SEnv → Option SEnv := fun ds E => match ds with
  | [] => some E
  | _ => none
def gs1 (g : MG) (gs : List D → SEnv → Option SEnv) : List D → SEnv → Option SEnv := fun ds E => match ds with
  | d :: ds => (match g (.val d) E with
    | some E1 => gs ds E1
    | none => none)
  | [] => none
theorem PGs.imp {X : Cx} {e : List Expr} {t t' : TGs} (h : PGs X e t) (i : ∀ v σ H Q, t' v σ H Q → t v σ H Q) : PGs X e t' := ⟨fun p s σ H v u Q I r q => h.run p s σ H v u Q I r (i v σ H Q q)⟩
theorem den_tgs0 : PGs X [] (tMGs X.K cl gs0) := PGs.imp pgs_nil fun vs σ H Q h => by
  obtain ⟨C, E, T, ds, R, hl, E', e, h⟩ := h
  cases ds with
  | nil =>
    have : vs = [] := List.eq_nil_of_length_eq_zero hl
    subst this
    cases e
    exact ⟨rfl, h σ H (by simpa using R)⟩
  | cons d ds => cases e
/-- the value for the first target stands last -/
theorem Rel.swap {K : PySem.W.Frag} {C : Ctx} {E : SEnv} {T : List (V × Ret)} {σ : St} {H : Hp} {v : V} {d : D} {vs : List V} {ds : List D} (R : Rel K cl C E (T ++ (v :: vs).zip ((d :: ds).map Ret.val)) σ H) : Rel K cl C E ((T ++ vs.zip (ds.map Ret.val)) ++ [(v, .val d)]) σ H := by
  obtain ⟨F, ρ, R⟩ := R
  have R' : RelF K cl C F ρ E ((T ++ [(v, .val d)]) ++ vs.zip (ds.map Ret.val)) σ H := by simpa using R
  have h1 : Dp K F v d := R'.tm T.length v (.val d) (by rw [List.append_assoc]; simp)
  have h2 : ∀ (k : Nat) (w : V) (r : Ret), (vs.zip (ds.map Ret.val))[k]? = some (w, r) → ∃ d, r = Ret.val d ∧ Dp K F w d := fun k w r e => by
    have e' : ((T ++ [(v, Ret.val d)]) ++ vs.zip (ds.map Ret.val))[(T.length + 1) + k]? = some (w, r) := by
      rw [List.getElem?_append_right (by simp)]
      simpa using e
    have hv : ∃ d, r = .val d := by
      obtain ⟨_, hr⟩ := List.getElem?_zip_eq_some.mp e
      rw [List.getElem?_map] at hr
      cases q : ds[k]? with
      | none => rw [q] at hr; cases hr
      | some d' => rw [q] at hr; cases hr; exact ⟨d', rfl⟩
    obtain ⟨d', rfl⟩ := hv
    exact ⟨d', rfl, (R'.tm _ w (.val d') e' : Dp K F w d')⟩
  refine RelF.rel (F := F) (ρ := ρ) { len := R.len, f0 := R.f0, fh := R.fh, h0 := R.h0, hf := R.hf, tb := R.tb, nt := R.nt, sl := R.sl, ln := R.ln, tm := fun k w r e => ?_ }
  rcases at_snoc e with e2 | ⟨_, e2⟩
  · rcases Nat.lt_or_ge k T.length with hk | hk
    · rw [List.getElem?_append_left hk] at e2
      exact R.tm k w r (by rw [List.getElem?_append_left hk]; exact e2)
    · rw [List.getElem?_append_right hk] at e2
      obtain ⟨d', rfl, h⟩ := h2 _ w r e2
      exact h
  · cases e2; exact h1
theorem den_tgs1 {es : List Expr} {g : MG} {gs : List D → SEnv → Option SEnv} (h1 : PG X e (tMG X.K cl g)) (h2 : PGs X es (tMGs X.K cl gs)) (hs : (assignEach (e :: es) X.env).map (·.2) = assign e X.env :: (assignEach es X.env).map (·.2) := by rfl) : PGs X (e :: es) (tMGs X.K cl (gs1 g gs)) :=
  PGs.imp (pgs_cons h1 h2 hs) fun vs σ H Q h => by
    obtain ⟨C, E, T, ds, R, hl, E', e, h⟩ := h
    cases ds with
    | nil => cases e
    | cons d ds =>
      cases vs with
      | nil => cases hl
      | cons v vs =>
        refine ⟨v, vs, rfl, ?_⟩
        unfold gs1 at e
        dsimp only at e
        cases q : g (.val d) E with
        | none => rw [q] at e; cases e
        | some E1 =>
          rw [q] at e
          exact ⟨C, E, _, .val d, R.swap, trivial, E1, q, fun σ' H' R' => ⟨C, E1, T, ds, R', Nat.succ.inj hl, E', e, h⟩⟩
def gTupF (n : Nat) (gs : List D → SEnv → Option SEnv) : MG := fun r E => match dat E r with
  | some (.tuple ds) => if ds.length = n then gs ds E else none
  | _ => none
theorem RelF.push_vals {K : PySem.W.Frag} {C : Ctx} {F : Hp} {ρ : Own} {E : SEnv} {σ : St} {H : Hp} : ∀ {vs : List V} {ds : List D} {T : List (V × Ret)}, RelF K cl C F ρ E T σ H → DpAll K F vs ds → RelF K cl C F ρ E (T ++ vs.zip (ds.map Ret.val)) σ H
  | _, _, T, R, .nil => by simpa using R
  | v :: vs, d :: ds, T, R, .cons h hs => by
    have := RelF.push_vals (R.push_val h) hs
    simpa using this
theorem den_ttup {es : List Expr} {k n : Nat} {gs : List D → SEnv → Option SEnv} (hc : X.calm = true) (h : PGs X es (tMGs X.K cl gs)) (hn : (assignEach es X.env).length = n := by rfl) (hst : (assignEach es X.env).findIdx? (·.1) = none := by rfl) : PG X (.Tuple es k pos) (tMG X.K cl (gTupF n gs)) :=
  PG.imp (pg_tup hc h hn hst) fun v σ H Q h => by
    obtain ⟨C, E, T, r, ⟨F, ρ, R⟩, b, E', e, h⟩ := h
    unfold gTupF at e
    split at e
    · rename_i ds e1
      split at e
      · rename_i hl
        cases (show Dp X.K F v (.tuple ds) from R.dat (k := T.length) (by simp) b e1) with
        | tup h1 h2 =>
          exact ⟨_, _, rfl, (h1.mono R.fh).sq, (dps_len h2).trans hl, C, E, T, ds, (R.drop.push_vals h2).rel, dps_len h2, E', e, h⟩
      · cases e
    · cases e
theorem den_asg {tg e : Expr} {g : MG} (he : PE X e (tM X.K cl W ma)) (hg : PG X tg (tMG X.K cl g)) (hs : swapsWithSole [tg] e pos.line X.env = pure false := by rfl) (hw : swappedStores [tg] e X.env = pure none := by rfl)
    (h1 : (assignEach [tg] X.env).map (·.2) = [assign tg X.env] := by rfl) : PS X (.Assign [tg] e pos) (tMS X.K cl W (mTo g ma)) := PS.imp (ps_asg he hg hs hw h1) fun D σ H h => by
  obtain ⟨C, E, T, R, h⟩ := h
  refine ⟨C, E, T, R, (RunS.bind h).run fun r E1 h1 v1 H1 R1 b1 => ?_⟩
  cases q : g r E1 with
  | some E2 => rw [q] at h1; exact ⟨C, E1, T, r, R1, b1, E2, q, fun σ' H' R' => h1 σ' H' R'⟩
  | none => rw [q] at h1; exact (h1 : False).elim
theorem den_set (i : Nat) {x : Str} {pos' : Pos} (hN : X.N.Nodup) (he : PE X e (tM X.K cl W ma)) (hi : X.N[i]? = some x := by rfl) (hx : Loc X.env.scope x := by first | exact Or.inl rfl | exact Or.inr rfl) (hs : swapsWith e (some (.Name x pos')) pos.line X.env = pure false := by rfl) (hf : X.fn x = true ∨ X.env.scope.names.lookup x = some .local := by first | exact .inl rfl | exact .inr rfl) :
    PS X (.Assign [.Name x pos'] e pos) (tMS X.K cl W (mSet i ma)) := PS.imp (ps_set hN hi hx he hs hf) fun D σ H h => by
  obtain ⟨C, E, T, R, h⟩ := h
  refine ⟨C, E, T, R, (RunS.bind h).run fun r E1 h1 v1 H1 R1 b1 => ?_⟩
  cases q : mStore i r E1 with
  | some E2 =>
    rw [q] at h1
    obtain ⟨F, ρ, RF⟩ := R1
    obtain ⟨F', ρ', _, R'⟩ := RF.store b1 q
    exact h1 _ _ R'.rel
  | none => rw [q] at h1; exact (h1 : False).elim
end
end MP

namespace MP
open PySem PySem.Spec L2

/-! ### while -/
/-- n turns at most -/
def mWhileF (c : M Bool) (b : M Fl) : Nat → M Fl
  | 0 => fun _ => .no
  | n + 1 => fun E => (c E).bind fun k E1 => if k = true then (b E1).bind fun f E2 => (match f with
      | .nx => mWhileF c b n E2
      | .ct => mWhileF c b n E2
      | .bk => .ok .nx E2
      | .rt r => .ok (.rt r) E2) else .ok .nx E1
open Classical in
noncomputable def mWhile (c : M Bool) (b : M Fl) : M Fl := fun E => if h : ∃ n, mWhileF c b n E ≠ .no then mWhileF c b (Classical.choose h) E else .no
theorem whileF_mono (c : M Bool) (b : M Fl) : ∀ (n : Nat) (E : SEnv), mWhileF c b n E ≠ .no → mWhileF c b (n + 1) E = mWhileF c b n E
  | 0, E, h => absurd rfl h
  | n + 1, E, h => by
    show (c E).bind _ = (c E).bind _
    have h' : (c E).bind (fun k E1 => if k = true then (b E1).bind fun f E2 => (match f with
      | .nx => mWhileF c b n E2
      | .ct => mWhileF c b n E2
      | .bk => Res.ok Fl.nx E2
      | .rt r => .ok (.rt r) E2) else .ok .nx E1) ≠ .no := h
    cases hc : c E with
    | ex x E1 => rfl
    | no => rfl
    | ok k E1 =>
      rw [hc] at h'
      simp only [bind_ok] at h' ⊢
      by_cases hk : k = true
      · rw [if_pos hk] at h' ⊢
        rw [if_pos hk]
        cases hb : b E1 with
        | ex x E2 => rfl
        | no => rfl
        | ok f E2 =>
          rw [hb] at h'
          simp only [bind_ok] at h' ⊢
          cases f with
          | nx => exact whileF_mono c b n E2 h'
          | ct => exact whileF_mono c b n E2 h'
          | bk => rfl
          | rt r => rfl
      · rw [if_neg hk, if_neg hk]
theorem whileF_le (c : M Bool) (b : M Fl) {n m : Nat} {E : SEnv} (h : mWhileF c b n E ≠ .no) (hm : n ≤ m) : mWhileF c b m E = mWhileF c b n E := by
  induction m with
  | zero =>
    have : n = 0 := by omega
    subst this; rfl
  | succ m ih =>
    by_cases e : n = m + 1
    · subst e; rfl
    · have h1 := ih (by omega)
      rw [whileF_mono c b m E (by rw [h1]; exact h)]
      exact h1
/-- a run of n turns is the run -/
theorem while_eq {c : M Bool} {b : M Fl} {n : Nat} {E : SEnv} (h : mWhileF c b n E ≠ .no) : mWhile c b E = mWhileF c b n E := by
  have he : ∃ n, mWhileF c b n E ≠ .no := ⟨n, h⟩
  unfold mWhile
  rw [dif_pos he]
  have h2 := Classical.choose_spec he
  rcases Nat.le_total n (Classical.choose he) with hl | hl
  · exact whileF_le c b h hl
  · exact (whileF_le c b h2 hl).symm
section
variable {X : Cx} {cl : Cl} {W : WX} {c e : Expr} {pos : Pos} {ma : M Ret} {tc : M Bool} {m n : M Fl}
theorem den_while {body : List Stmt} (hp : PassesOwn (model X.prog X.w) X.A X.env X.xe) (hc : PT X c (tMT X.K cl W tc)) (hb : PSs X body (tMS X.K cl W m)) : PS X (.While c body [] pos) (tMS X.K cl W (mWhile tc m)) := PS.imp (ps_while hp hc hb) fun D σ H h => by
  obtain ⟨C, E, T, R, h⟩ := h
  by_cases he : ∃ n, mWhileF tc m n E ≠ .no
  · obtain ⟨n, hn⟩ := he
    rw [while_eq hn] at h
    refine ⟨fun n σ H => ∃ E, Rel X.K cl C E T σ H ∧ RunS X.K cl W C T (PostS X.K cl C T D) (mWhileF tc m n E), ⟨n, E, R, h⟩, ?_⟩
    rintro n σ H ⟨E, R, h⟩
    cases n with
    | zero => exact h.elim
    | succ n =>
      refine ⟨C, E, T, R, (RunS.bind h).run fun k E1 h1 H1 R1 => ?_⟩
      by_cases hk : k = true
      · rw [if_pos hk] at h1 ⊢
        refine ⟨fun σ' H' => ∃ E2, Rel X.K cl C E2 T σ' H' ∧ RunS X.K cl W C T (PostS X.K cl C T D) (mWhileF tc m n E2), fun σ' H' q => ⟨n, Nat.lt_succ_self n, q⟩, C, E1, T, R1, (RunS.bind h1).imp fun f E2 h2 => ?_⟩
        cases f with
        | nx => exact fun σ' H' R' => ⟨E2, R', h2⟩
        | ct => exact fun σ' H' R' => ⟨E2, R', h2⟩
        | bk => exact fun σ' H' R' => h2 σ' H' R'
        | rt r => exact fun v σ' H' R' b => h2 v σ' H' R' b
      · rw [if_neg hk] at h1 ⊢
        exact h1 σ H1 R1
  · have : mWhile tc m E = .no := by unfold mWhile; rw [dif_neg he]
    rw [this] at h
    exact h.elim
end

/-! ### what is walked -/
/-- J walks the items, as long as the heap keeps G -/
structure Walks (K : PySem.W.Frag) (F : Hp) (J : It) (its : List D) (G : Hp → Prop) : Prop where
  goes : ∀ i H, i < its.length → G H → J.go i H
  stops : ∀ H, G H → J.stop its.length H
  yields : ∀ i d H x H', its[i]? = some d → G H → J.yld i H x H' → (H' = H ∧ Dp K F x d) ∨ ∃ p vs ds, ∃ ob : Obj, ob.dict = none ∧ d = .tuple ds ∧ x = .ref p ∧ H p = none ∧ H' = upd H p (.frz ob (.tup vs)) ∧ DpAll K F vs ds
/-- what an iterable is by the slots: its items; the slot that is locked while it is walked -/
abbrev MI := SEnv → Res (List D × Option Nat)
/-- the slots while the loop runs -/
def lockE (E : SEnv) : Option Nat → SEnv
  | none => E
  | some j => match E[j]? with
    | some (.own o) => E.set j (.lck o)
    | _ => E
def unlockE (E : SEnv) : Option Nat → Option SEnv
  | none => some E
  | some j => match E[j]? with
    | some (.lck o) => some (E.set j (.own o))
    | _ => none
def unlockX {α : Type} (lk : Option Nat) : Res α → Res α
  | .ok f E => (match unlockE E lk with
    | some E' => .ok f E'
    | none => .no)
  | .ex x E => (match unlockE E lk with
    | some E' => .ex x E'
    | none => .no)
  | .no => .no
section
variable {K : PySem.W.Frag} {cl : Cl} {C : Ctx} {F F' : Hp} {ρ ρ' : Own} {E E' : SEnv} {T T' : List (V × Ret)} {σ σ' : St} {H H' : Hp} {i j k : Nat} {p : Addr} {v : V} {r : Ret} {o : MO} {d : D}
/-- from now on F is kept -/
theorem RelF.base (R : RelF K cl C F ρ E T σ H) : RelF K cl { C with F0 := F } F ρ E T σ H :=
  { len := R.len, f0 := L2.Same.refl F, fh := R.fh, h0 := R.h0, tb := R.tb, nt := R.nt, hf := fun _ _ _ => rfl, sl := fun i v s e1 e2 => by
      have h := R.sl i v s e1 e2
      cases s <;> exact h, ln := R.ln, tm := fun k v r e => by
      have h := R.tm k v r e
      cases r <;> exact h }
theorem RelF.unbase (R : RelF K cl C F ρ E T σ H) (R' : RelF K cl { C with F0 := F } F' ρ' E' T' σ' H') : RelF K cl C F' ρ' E' T' σ' H' :=
  { len := R'.len, f0 := L2.Same.trans R.f0 R'.f0, fh := R'.fh, h0 := R'.h0, tb := R'.tb, nt := R'.nt, hf := fun p o e => (R'.hf p o e).trans (R.hf p o e), sl := fun i v s e1 e2 => by
      have h := R'.sl i v s e1 e2
      cases s <;> exact h, ln := R'.ln, tm := fun k v r e => by
      have h := R'.tm k v r e
      cases r <;> exact h }
/-- an own list is locked: from now on its place is kept -/
theorem RelF.lock (R : RelF K cl C F ρ E T σ H) (e : E[j]? = some (.own o)) (b : σ[j]? = some (some (.ref p))) :
    RelF K cl { C with F0 := F, H0 := fun q => if q = p then H p else C.H0 q, lck := fun i => if i = j then some p else C.lck i } F ρ (E.set j (.lck o)) T σ H := by
  obtain ⟨p', e1, h1, h2⟩ := R.sl j _ _ b e
  cases e1
  obtain ⟨ho, hh, hm, hf, ht⟩ := id h1
  have nl : ∀ i, C.lent i ≠ some p := fun i hi => by
    obtain ⟨o', g1, g2⟩ := R.ln i p hi
    obtain ⟨p2, q1, q2, _⟩ := R.sl i _ _ g2 g1
    cases q1
    by_cases hij : i = j
    · subst hij; rw [e] at g1; cases g1
    · exact (q2.apart h1 (fun z => by cases z; exact hij rfl)) rfl
  have own0 : ∀ g, g ≠ Tag.s j → ∀ q o, OwnAt K F ρ H g q o → C.H0 q = none → (if q = p then H p else C.H0 q) = none := fun g n q o h hq => by
    rw [if_neg (h.apart h1 n)]; exact hq
  refine { len := by simpa using R.len, f0 := L2.Same.refl F, fh := R.fh, h0 := fun q u e' l => ?_, tb := R.tb, nt := fun q hq => (if_neg (fun z : q = p => noT_no R.tb.1 hh (mrep_tbl hm) (by rw [← z]; exact hq))).trans (R.nt q hq), hf := fun _ _ _ => rfl, sl := fun i w s e1 e2 => ?_, ln := fun i q e' => ?_, tm := fun k w r e' => ?_ }
  · dsimp only at e'
    split at e'
    · rename_i hq; subst hq; exact e'
    · exact R.h0 q u e' l
  · rcases set_cases e2 with ⟨rfl, rfl, _⟩ | ⟨n, e2⟩
    · rw [b] at e1; cases e1
      exact ⟨p, ho, rfl, ⟨ho, hh, hm, hf, ht⟩, if_pos rfl, (if_pos rfl).trans hh, nl⟩
    · have h := R.sl i w s e1 e2
      have ns : Tag.s i ≠ Tag.s j := fun z => by cases z; exact n rfl
      cases s with
      | un => trivial
      | val d => exact h
      | own o' => obtain ⟨q, z1, z2, z3⟩ := h; exact ⟨q, z1, z2, own0 _ ns _ _ z2 z3⟩
      | lnt o' => exact h
      | lck o' => obtain ⟨q, u, z1, z2, z3, z4, z5⟩ := h; exact ⟨q, u, z1, z2, (if_neg n).trans z3, (if_neg (z2.apart h1 ns)).trans z4, z5⟩
      | exc x => exact h
      | fn ds =>
        obtain ⟨k, e1, e2, e3, e4, e5, h⟩ := h
        have nf : ∀ {a : Addr} {u : HO}, C.H0 a = some u → a ≠ p := fun {a u} e z => by rw [z, h2] at e; cases e
        refine ⟨k, e1, e2, (if_neg (nf e3)).trans e3, (if_neg (nf e4)).trans e4, e5, ?_⟩
        split at h
        · exact h
        · exact ⟨h.1, own0 _ ns _ _ h.1 h.2⟩
      | nst b xs =>
        obtain ⟨q, z1, z2, z3⟩ := h
        exact ⟨q, z1, z2.chg (L2.Same.refl F) (fun q o a1 a2 => ⟨a1, own0 _ ns _ _ a1 a2⟩), fun z => (if_neg n).trans (z3 z)⟩
  · obtain ⟨o', g1, g2⟩ := R.ln i q e'
    have n : i ≠ j := fun z => by subst z; rw [e] at g1; cases g1
    exact ⟨o', by rw [List.getElem?_set_ne (Ne.symm n)]; exact g1, g2⟩
  · have h := R.tm k w r e'
    cases r with
    | bor i => trivial
    | val d => exact h
    | own o' => obtain ⟨q, z1, z2, z3⟩ := h; exact ⟨q, z1, z2, own0 _ (fun z => by cases z) _ _ z2 z3⟩
theorem RelF.unlock (R : RelF K cl C F ρ E T σ H) (e : E[j]? = some (.own o)) (b : σ[j]? = some (some (.ref p)))
    (R' : RelF K cl { C with F0 := F, H0 := fun q => if q = p then H p else C.H0 q, lck := fun i => if i = j then some p else C.lck i } F' ρ' E' T' σ' H') {o' : MO} (e' : E'[j]? = some (.lck o')) : RelF K cl C F' ρ' (E'.set j (.own o')) T' σ' H' := by
  obtain ⟨p', e1, h1, h2⟩ := R.sl j _ _ b e
  cases e1
  obtain ⟨w, hw⟩ := slot_there R' e'
  obtain ⟨q, hq0, z1, z2, z3, z4, z5⟩ := R'.sl j w _ hw e'
  have hqp : q = p := by
    have z3' : (if j = j then some p else C.lck j) = some q := z3
    rw [if_pos rfl] at z3'
    exact (Option.some.inj z3').symm
  subst hqp
  have own0 : ∀ {x : Addr} {u : HO}, (if x = q then H q else C.H0 x) = some u → x ≠ q → C.H0 x = some u := fun {x u} a n => by rwa [if_neg n] at a
  have own1 : ∀ {x : Addr}, (if x = q then H q else C.H0 x) = none → C.H0 x = none := fun {x} a => by
    by_cases n : x = q
    · subst n; exact h2
    · rwa [if_neg n] at a
  refine { len := by simpa using R'.len, f0 := L2.Same.trans R.f0 R'.f0, fh := R'.fh, h0 := fun x u a l => ?_, tb := R'.tb, nt := fun x hx => own1 (R'.nt x hx), hf := fun x u a => ?_, sl := fun i w s e1 e2 => ?_, ln := fun i x a => ?_, tm := fun k w r a => ?_ }
  · have n : x ≠ q := fun z => by subst z; rw [h2] at a; cases a
    exact R'.h0 x u ((if_neg n).trans a) l
  · have n : x ≠ q := fun z => by subst z; rw [h2] at a; cases a
    exact (R'.hf x u ((if_neg n).trans a)).trans (R.hf x u a)
  · rcases set_cases e2 with ⟨rfl, rfl, _⟩ | ⟨n, e2⟩
    · rw [hw] at e1; cases e1
      exact ⟨q, z1, z2, h2⟩
    · have h := R'.sl i w s e1 e2
      cases s with
      | un => trivial
      | val d => exact h
      | own o2 => obtain ⟨x, y1, y2, y3⟩ := h; exact ⟨x, y1, y2, own1 y3⟩
      | lnt o2 => exact h
      | lck o2 =>
        obtain ⟨x, u, y1, y2, y3, y4, y5⟩ := h
        have nx : x ≠ q := y2.apart z2 fun z => by cases z; exact n rfl
        have y3' : (if i = j then some q else C.lck i) = some x := y3
        rw [if_neg n] at y3'
        exact ⟨x, u, y1, y2, y3', own0 y4 nx, y5⟩
      | exc x => exact h
      | fn ds =>
        obtain ⟨k, e1, e2, e3, e4, e5, h⟩ := h
        have e0 : C.H0 q = none := h2
        have nf : ∀ {a : Addr} {u w : HO}, H' a = some w → (if a = q then H q else C.H0 a) = some u → (∀ ho o, MRep K F' ho o → w ≠ ho) → C.H0 a = some u := fun {a u w} ea e ne => by
          refine own0 e fun z => ?_
          subst z
          obtain ⟨ho, g1, g2, _⟩ := z2
          rw [ea] at g1
          exact ne ho _ g2 (Option.some.inj g1)
        have hf1 : H' k.f = some (FunO k.f k.o) := R'.h0 _ _ e3 fun j => (e5 j).1
        have hc1 : H' k.c = some (LamX.CodeO k.c k.q) := R'.h0 _ _ e4 fun j => (e5 j).2
        refine ⟨k, e1, e2, nf hf1 e3 (fun ho o m z => mrep_fun m _ _ z.symm), nf hc1 e4 (fun ho o m z => mrep_code m _ _ z.symm), e5, ?_⟩
        split at h
        · exact h
        · exact ⟨h.1, own1 h.2⟩
      | nst b xs =>
        obtain ⟨x, y1, y2, y3⟩ := h
        refine ⟨x, y1, y2.chg (L2.Same.refl _) (fun q o a1 a2 => ⟨a1, own1 a2⟩), fun z => ?_⟩
        have y3' : (if i = j then some q else C.lck i) = some x := y3 z
        rw [if_neg n] at y3'
        exact y3'
  · obtain ⟨o2, g1, g2⟩ := R'.ln i x a
    have n : i ≠ j := fun z => by subst z; rw [e'] at g1; cases g1
    exact ⟨o2, by rw [List.getElem?_set_ne (Ne.symm n)]; exact g1, g2⟩
  · have h := R'.tm k w r a
    cases r with
    | bor i => trivial
    | val d => exact h
    | own o2 => obtain ⟨x, y1, y2, y3⟩ := h; exact ⟨x, y1, y2, own1 y3⟩
/-- the context while a loop runs -/
structure Locked (K : PySem.W.Frag) (cl : Cl) (C : Ctx) (F H : Hp) (σ : St) (lk : Option Nat) (C' : Ctx) : Prop where
  f0 : C'.F0 = F
  h0n : ∀ p, C'.H0 p = none → C.H0 p = none
  un : ∀ F' ρ' E' T' σ' H' E'', RelF K cl C' F' ρ' E' T' σ' H' → unlockE E' lk = some E'' → RelF K cl C F' ρ' E'' T' σ' H'
  keep : ∀ F' ρ' E' T' σ' H', RelF K cl C' F' ρ' E' T' σ' H' → ∀ j p, lk = some j → σ[j]? = some (some (.ref p)) → H' p = H p
theorem RelF.locks {lk : Option Nat} (R : RelF K cl C F ρ E T σ H) (hl : ∀ j, lk = some j → ∃ o, E[j]? = some (.own o)) : ∃ C', Rel K cl C' (lockE E lk) T σ H ∧ Locked K cl C F H σ lk C' := by
  cases lk with
  | none =>
    have h : Locked K cl C F H σ none { C with F0 := F } := { f0 := rfl, h0n := fun _ h => h, un := fun F' ρ' E' T' σ' H' E'' R' e => by cases e; exact R.unbase R', keep := fun _ _ _ _ _ _ _ _ _ h => nomatch h }
    exact ⟨{ C with F0 := F }, R.base.rel, h⟩
  | some j =>
    obtain ⟨o, e⟩ := hl j rfl
    obtain ⟨w, hw⟩ := slot_there R e
    obtain ⟨p, rfl, h1, h2⟩ := R.sl j w _ hw e
    have L := R.lock e hw
    have hlt := (List.getElem?_eq_some_iff.mp e).1
    obtain ⟨q, ho, z1, z2, z3, z4, z5⟩ := L.sl j _ _ hw (by rw [List.getElem?_set_self hlt])
    cases z1
    refine ⟨{ C with F0 := F, H0 := fun q => if q = p then H p else C.H0 q, lck := fun i => if i = j then some p else C.lck i }, ?_, ⟨rfl, fun q z => by
      by_cases n : q = p
      · subst n; exact h2
      · exact (if_neg n).symm.trans z, fun F' ρ' E' T' σ' H' E'' R' e' => ?_, fun F' ρ' E' T' σ' H' R' j' p' ej hp => ?_⟩⟩
    · have q : lockE E (some j) = E.set j (.lck o) := by
        simp only [lockE]
        rw [e]
      rw [q]
      exact L.rel
    · simp only [unlockE] at e'
      split at e'
      · rename_i o' e2
        cases e'
        exact R.unlock e hw R' e2
      · cases e'
    · cases ej
      rw [hw] at hp; cases hp
      have := R'.h0 p ho z4 z5
      obtain ⟨u, hu, _⟩ := h1
      have z4' : (if p = p then H p else C.H0 p) = some ho := z4
      rw [if_pos rfl] at z4'
      rw [this, z4']
theorem Locked.runS {D : Ends} {lk : Option Nat} {C' : Ctx} {W : WX} {r : Res Fl} (L : Locked K cl C F H σ lk C') (h : RunS K cl W C T (PostS K cl C T D) (unlockX lk r)) : RunS K cl W C' T (PostS K cl C' T D) r := by
  have un : ∀ {E' E'' : SEnv} {T' : List (V × Ret)} {σ' : St} {H' : Hp}, Rel K cl C' E' T' σ' H' → unlockE E' lk = some E'' → Rel K cl C E'' T' σ' H' := fun R e => by
    obtain ⟨F', ρ', R'⟩ := R
    exact (L.un _ _ _ _ _ _ _ R' e).rel
  cases r with
  | no => exact h
  | ex x E' =>
    unfold unlockX at h
    dsimp only at h
    split at h
    · rename_i E'' e
      exact fun d σ' H' R' ed => h d σ' H' (un R' e) (ed.weak L.h0n)
    · exact h.elim
  | ok f E' =>
    unfold unlockX at h
    dsimp only at h
    split at h
    · rename_i E'' e
      cases f with
      | nx => exact fun σ' H' R' => h σ' H' (un R' e)
      | bk => exact fun σ' H' R' => h σ' H' (un R' e)
      | ct => exact fun σ' H' R' => h σ' H' (un R' e)
      | rt r => exact fun v σ' H' R' b => h v σ' H' (un R' e) b
    · exact h.elim
theorem Locked.run {D : SEnv → Prop} {D' : SEnv → Prop} {lk : Option Nat} {C' : Ctx} {W : WX} {r : Res Unit} (L : Locked K cl C F H σ lk C') {σ2 : St} (h : Run K cl W C T σ2 (fun _ E => D E) (unlockX lk r)) (hd : ∀ E E', unlockE E lk = some E' → D E' → D' E) : Run K cl W C' T σ2 (fun _ E => D' E) r := by
  cases r with
  | no => exact h
  | ex x E' =>
    unfold unlockX at h
    dsimp only at h
    split at h
    · rename_i E'' e
      exact fun d H' R' ed => h d H' (by
        obtain ⟨F', ρ', R'⟩ := R'
        exact (L.un _ _ _ _ _ _ _ R' e).rel) (ed.weak L.h0n)
    · exact h.elim
  | ok f E' =>
    unfold unlockX at h
    dsimp only at h
    split at h
    · rename_i E'' e
      exact hd _ _ e h
    · exact h.elim
end
/-- the reading of an iterable -/
def tMI (K : PySem.W.Frag) (cl : Cl) (W : WX) (mi : MI) : TI := fun σ H R => ∃ C E T, Rel K cl C E T σ H ∧ Run K cl W C T σ (fun il E' => ∀ J H' F ρ (G : Hp → Prop), RelF K cl C F ρ E' T σ H' → Walks K F J il.1 G →
  (∀ F' H'', Same F F' → Same F' H'' → (∀ j p, il.2 = some j → σ[j]? = some (some (.ref p)) → H'' p = H' p) → G H'') → (∀ j, il.2 = some j → ∃ o, E'[j]? = some (.own o)) → R J H') (mi E)
def mForL (g : MG) (b : M Fl) : List D → M Fl
  | [] => mNx
  | d :: ds => fun E => match g (.val d) E with
    | none => .no
    | some E1 => (b E1).bind fun f E2 => (match f with
      | .nx => mForL g b ds E2
      | .ct => mForL g b ds E2
      | .bk => .ok .nx E2
      | .rt r => .ok (.rt r) E2)
def mFor (mi : MI) (g : MG) (b : M Fl) : M Fl := fun E => (mi E).bind fun il E1 => unlockX il.2 (mForL g b il.1 (lockE E1 il.2))
section
variable {X : Cx} {cl : Cl} {W : WX} {tg iter : Expr} {pos : Pos} {mi : MI} {g : MG} {m : M Fl}
theorem PI.imp {X : Cx} {tg e : Expr} {t t' : TI} (h : PI X tg e t) (i : ∀ σ H R, t' σ H R → t σ H R) : PI X tg e t' := ⟨fun p s σ H R I q => h.run p s σ H R I (i σ H R q)⟩
theorem den_for {body : List Stmt} (hp : PassesOwn (model X.prog X.w) X.A X.env X.xe) (hc : X.calm = true) (hi : PI X tg iter (tMI X.K cl W mi)) (hg : PG X tg (tMG X.K cl g)) (hb : PSs X body (tMS X.K cl W m))
    (hs : ∀ x, foldedSetIterable iter X.env x = pure x := by intro _; rfl) : PS X (.For tg iter body [] pos) (tMS X.K cl W (mFor mi g m)) := PS.imp (ps_for hp hc hi hg hb hs) fun D σ H h => by
  obtain ⟨C, E, T, R, h⟩ := h
  refine ⟨C, E, T, R, (RunS.bind h).run fun il E1 h1 J H1 F ρ G R1 wk hG hl => ?_⟩
  obtain ⟨its, lk⟩ := il
  obtain ⟨C', R2, L⟩ := R1.locks hl
  have h2 := L.runS h1
  clear h1 h R
  have step : ∀ i E, RunS X.K cl W C' T (PostS X.K cl C' T D) (mForL g m (its.drop i) E) → ∀ d, its[i]? = some d → ∃ E1, g (.val d) E = some E1 ∧ RunS X.K cl W C' T (fun f E2 => match f with
      | .nx => RunS X.K cl W C' T (PostS X.K cl C' T D) (mForL g m (its.drop (i + 1)) E2)
      | .ct => RunS X.K cl W C' T (PostS X.K cl C' T D) (mForL g m (its.drop (i + 1)) E2)
      | .bk => PostS X.K cl C' T D .nx E2
      | .rt r => PostS X.K cl C' T D (.rt r) E2) (m E1) := fun i E h d e => by
    obtain ⟨hi, rfl⟩ := List.getElem?_eq_some_iff.mp e
    rw [List.drop_eq_getElem_cons hi] at h
    unfold mForL at h
    split at h
    · exact h.elim
    · rename_i E1 e1
      refine ⟨E1, e1, (RunS.bind h).imp fun f E2 h3 => ?_⟩
      cases f <;> exact h3
  have kG : ∀ {E σ' H'}, Rel X.K cl C' E T σ' H' → G H' := fun {E σ' H'} R => by
    obtain ⟨F', ρ', R'⟩ := R
    exact hG F' H' (by rw [← L.f0]; exact R'.f0) R'.fh (fun j p e1 e2 => L.keep _ _ _ _ _ _ R' j p e1 e2)
  refine ⟨fun i n σ' H' => n = its.length - i ∧ i ≤ its.length ∧ ∃ E, Rel X.K cl C' E T σ' H' ∧ RunS X.K cl W C' T (PostS X.K cl C' T D) (mForL g m (its.drop i) E), ⟨its.length, by simp, Nat.zero_le _, _, R2, by simpa using h2⟩, ?_⟩
  rintro i n σ' H' ⟨rfl, hi, E, R3, h3⟩
  by_cases hlt : i < its.length
  · refine .inr ⟨wk.goes i H' hlt (kG R3), fun σ' H' => ∃ E, Rel X.K cl C' E T σ' H' ∧ RunS X.K cl W C' T (PostS X.K cl C' T D) (mForL g m (its.drop (i + 1)) E), fun σ' H' q => ⟨its.length - (i + 1), by omega, rfl, hlt, q⟩, fun x H2 y => ?_⟩
    obtain ⟨E1, e1, h4⟩ := step i E h3 its[i] (List.getElem?_eq_getElem hlt)
    have fin : ∀ {H2 : Hp}, Rel X.K cl C' E (T ++ [(x, .val its[i])]) σ' H2 → tMG X.K cl g x σ' H2 fun σ2 H2 => tMS X.K cl W m { D with nx := fun σ' H' => ∃ E, Rel X.K cl C' E T σ' H' ∧ RunS X.K cl W C' T (PostS X.K cl C' T D) (mForL g m (its.drop (i + 1)) E), ct := fun σ' H' => ∃ E, Rel X.K cl C' E T σ' H' ∧ RunS X.K cl W C' T (PostS X.K cl C' T D) (mForL g m (its.drop (i + 1)) E), bk := D.nx } σ2 H2 := fun {H2} R4 => by
      refine ⟨C', E, T, .val its[i], R4, trivial, E1, e1, fun σ2 H3 R5 => ⟨C', E1, T, R5, h4.imp fun f E2 h5 => ?_⟩⟩
      cases f with
      | nx => exact fun σ' H' R' => ⟨E2, R', h5⟩
      | ct => exact fun σ' H' R' => ⟨E2, R', h5⟩
      | bk => exact h5
      | rt r => exact h5
    obtain ⟨F', ρ', R3'⟩ := id R3
    have fs : Same F F' := by rw [← L.f0]; exact R3'.f0
    rcases wk.yields i its[i] H' x H2 (List.getElem?_eq_getElem hlt) (kG R3) y with ⟨rfl, hd⟩ | ⟨p, vs, ds, ob, nob, e, rfl, hn, rfl, hd⟩
    · exact fin (R3'.push_val (dp_mono fs hd)).rel
    · obtain ⟨R6, f6⟩ := R3'.lay hn (.frz ob (.tup vs))
      have : Dp X.K (upd F' p (.frz ob (.tup vs))) (.ref p) its[i] := by
        rw [e]
        exact .tup (.new nob) (dps_mono f6 (dps_mono fs hd))
      exact fin (R6.push_val this).rel
  · have e : i = its.length := by omega
    subst e
    rw [List.drop_length] at h3
    exact .inl ⟨wk.stops H' (kG R3), h3 σ' H' R3⟩

/-! ### iterables -/
/-- a list or a tuple that is data, or an own list -/
def mIt (m : M Ret) : MI := fun E => (m E).bind fun r E1 => match r with
  | .val (.list ds) => .ok (ds, none) E1
  | .val (.tuple ds) => .ok (ds, none) E1
  | .own (.lst ds) => .ok (ds, none) E1
  | .bor j => (match E1[j]? with
    | some (.val (.list ds)) => .ok (ds, none) E1
    | some (.val (.tuple ds)) => .ok (ds, none) E1
    | some (.own (.lst ds)) => .ok (ds, some j) E1
    | _ => .no)
  | _ => .no
/-- what an iterator over a list or tuple walks -/
theorem walks_list {K : PySem.W.Frag} {F : Hp} {a : Addr} {xs : List V} {ds : List D} (h : DpAll K F xs ds) : Walks K F (Itl K a) ds (fun H => SqL K H a xs) where
  goes := fun i H hi g => ⟨xs, xs[i]'(by rw [dps_len h]; exact hi), g, List.getElem?_eq_getElem _⟩
  stops := fun H g => ⟨xs, g, by rw [dps_len h]; exact Nat.le_refl _⟩
  yields := fun i d H x H' e g y => by
    obtain ⟨rfl, y⟩ := y
    obtain ⟨v, e1, h1⟩ := dps_get h e
    have := (y xs g).symm.trans e1
    cases this
    exact .inl ⟨rfl, h1⟩
theorem walks_tup {K : PySem.W.Frag} {F : Hp} {a : Addr} {xs : List V} {ds : List D} (h : DpAll K F xs ds) : Walks K F (Itt K a) ds (fun H => SqT K H a xs) where
  goes := fun i H hi g => ⟨xs, xs[i]'(by rw [dps_len h]; exact hi), g, List.getElem?_eq_getElem _⟩
  stops := fun H g => ⟨xs, g, by rw [dps_len h]; exact Nat.le_refl _⟩
  yields := fun i d H x H' e g y => by
    obtain ⟨rfl, y⟩ := y
    obtain ⟨v, e1, h1⟩ := dps_get h e
    have := (y xs g).symm.trans e1
    cases this
    exact .inl ⟨rfl, h1⟩
theorem walks_range {K : PySem.W.Frag} {F : Hp} {lo : Int} {n : Nat} : Walks K F (Itr lo n) ((List.range n).map fun i => PyData.int (lo + (i : Nat))) (fun _ => True) where
  goes := fun i H hi g => by show i < n; simpa using hi
  stops := fun H g => by show n ≤ _; simp
  yields := fun i d H x H' e g y => by
    obtain ⟨rfl, rfl⟩ := y
    rw [List.getElem?_map] at e
    cases q : (List.range n)[i]? with
    | none => rw [q] at e; cases e
    | some k =>
      rw [q] at e
      cases e
      obtain ⟨_, rfl⟩ := List.getElem?_eq_some_iff.mp q
      exact .inl ⟨rfl, by simpa using Dp.int _⟩
/-- a list or a tuple, walked -/
theorem pi_seq {l : Expr} {tl : TE} (hl : PE X l tl) : PI X tg l (fun σ H R => tl σ H fun x H1 => ∃ a, x = .ref a ∧ ((∃ xs, SqL X.K H1 a xs ∧ R (Itl X.K a) H1) ∨ ∃ xs, SqT X.K H1 a xs ∧ R (Itt X.K a) H1)) := by
  refine ⟨fun pins s σ H R I h => ?_⟩
  refine thn (hl.run pins s σ H _ I h) fun v s1 ⟨x, H1, I1, r1, a, e, q⟩ => ?_
  subst e
  cases r1
  have fp : ∀ b ∈ [s1.heap.objs.size], FpOk X pins H1 b := fun b hb => by
    rw [List.mem_singleton.mp hb]
    exact I1.fpOk (Nat.le_refl _) (I1.hok.fresh (Nat.le_refl _))
  rcases q with ⟨xs, hq, q⟩ | ⟨xs, hq, q⟩
  · obtain ⟨its, rv, pl, hz⟩ := I1.list hq
    refine wpAny_pyIter_list pl.isList ?_
    exact ⟨s1.heap.objs.size, [s1.heap.objs.size], _, _, H1, rfl, I1.kept (t' := s1.toks) fun b o e => Heap.get?_push_of_some _ e, turn_list a _, ⟨_, Heap.get?_push_size _ rfl, rfl, rfl⟩, fp, q⟩
  · obtain ⟨its, rv, pl, hz⟩ := I1.tuple hq
    refine wpAny_pyIter_tuple (show s1.heap.IsTuple a its.toArray from pl) ?_
    exact ⟨s1.heap.objs.size, [s1.heap.objs.size], _, _, H1, rfl, I1.kept (t' := s1.toks) fun b o e => Heap.get?_push_of_some _ e, turn_tuple a _, ⟨_, Heap.get?_push_size _ rfl, rfl, rfl⟩, fp, q⟩
theorem den_it {l : Expr} {ml : M Ret} (hl : PE X l (tM X.K cl W ml)) : PI X tg l (tMI X.K cl W (mIt ml)) := PI.imp (pi_seq hl) fun σ H R h => by
  obtain ⟨C, E, T, R0, h⟩ := h
  refine ⟨C, E, T, R0, (Run.bind h).imp fun r E1 h1 v H1 R1 b1 => ?_⟩
  obtain ⟨F, ρ, RF⟩ := R1
  have at0 : (T ++ [(v, r)])[T.length]? = some (v, r) := by simp
  -- data
  have list_ : ∀ {ds : List D} {E2 : SEnv} {ρ2 : Own} {F2 : Hp}, Dp X.K F2 v (.list ds) → RelF X.K cl C F2 ρ2 E2 T σ H1 →
      (∀ J H' F ρ (G : Hp → Prop), RelF X.K cl C F ρ E2 T σ H' → Walks X.K F J ds G → (∀ F' H'', Same F F' → Same F' H'' → (∀ j p, (none : Option Nat) = some j → σ[j]? = some (some (.ref p)) → H'' p = H' p) → G H'') → (∀ j, (none : Option Nat) = some j → ∃ o, E2[j]? = some (.own o)) → R J H') →
      ∃ a, v = .ref a ∧ ((∃ xs, SqL X.K H1 a xs ∧ R (Itl X.K a) H1) ∨ ∃ xs, SqT X.K H1 a xs ∧ R (Itt X.K a) H1) := fun {ds E2 ρ2 F2} hd R2 h => by
    have ⟨a, xs, e, k1, k2⟩ : ∃ a xs, v = .ref a ∧ SqL X.K F2 a xs ∧ DpAll X.K F2 xs ds := by
      cases hd with
      | lst h1 h2 => exact ⟨_, _, rfl, h1, h2⟩
    exact ⟨a, e, .inl ⟨xs, L2.Same.seq R2.fh k1, h _ H1 F2 ρ2 _ R2 (walks_list k2) (fun F' H'' e1 e2 _ => L2.Same.seq (L2.Same.trans e1 e2) k1) (fun _ z => nomatch z)⟩⟩
  have tup_ : ∀ {ds : List D} {E2 : SEnv} {ρ2 : Own} {F2 : Hp}, Dp X.K F2 v (.tuple ds) → RelF X.K cl C F2 ρ2 E2 T σ H1 →
      (∀ J H' F ρ (G : Hp → Prop), RelF X.K cl C F ρ E2 T σ H' → Walks X.K F J ds G → (∀ F' H'', Same F F' → Same F' H'' → (∀ j p, (none : Option Nat) = some j → σ[j]? = some (some (.ref p)) → H'' p = H' p) → G H'') → (∀ j, (none : Option Nat) = some j → ∃ o, E2[j]? = some (.own o)) → R J H') →
      ∃ a, v = .ref a ∧ ((∃ xs, SqL X.K H1 a xs ∧ R (Itl X.K a) H1) ∨ ∃ xs, SqT X.K H1 a xs ∧ R (Itt X.K a) H1) := fun {ds E2 ρ2 F2} hd R2 h => by
    have ⟨a, xs, e, k1, k2⟩ : ∃ a xs, v = .ref a ∧ SqT X.K F2 a xs ∧ DpAll X.K F2 xs ds := by
      cases hd with
      | tup h1 h2 => exact ⟨_, _, rfl, h1.sq, h2⟩
    exact ⟨a, e, .inr ⟨xs, Same.seqT R2.fh k1, h _ H1 F2 ρ2 _ R2 (walks_tup k2) (fun F' H'' e1 e2 _ => Same.seqT (L2.Same.trans e1 e2) k1) (fun _ z => nomatch z)⟩⟩
  split at h1
  · exact list_ (RF.tm _ _ _ at0) RF.drop h1
  · exact tup_ (RF.tm _ _ _ at0) RF.drop h1
  · rename_i ds
    obtain ⟨F', _, R', hd⟩ := RelF.take (T := T) (T2 := []) (r := .own (.lst ds)) RF b1 rfl
    exact list_ hd R'.drop h1
  · rename_i j
    have b' : σ[j]? = some (some v) := b1
    split at h1
    · rename_i ds e
      obtain ⟨x, z1, z2⟩ := RF.sl j _ _ b' e
      cases z1
      exact list_ z2 RF.drop h1
    · rename_i ds e
      obtain ⟨x, z1, z2⟩ := RF.sl j _ _ b' e
      cases z1
      exact tup_ z2 RF.drop h1
    · rename_i ds e
      obtain ⟨p, z1, ⟨u, z2, ⟨vs, rfl, hd⟩, z3, z4⟩, z5⟩ := RF.sl j _ _ b' e
      cases z1
      exact ⟨p, rfl, .inl ⟨vs, SqL.of z2, h1 _ H1 F ρ (fun H => SqL X.K H p vs) RF.drop (walks_list hd) (fun F' H'' e1 e2 e3 => SqL.of ((e3 j p rfl b').trans z2)) (fun j' z => by cases z; exact ⟨_, e⟩)⟩⟩
    · exact h1.elim
  · exact h1.elim
end
end MP

namespace MP
open PySem PySem.Spec L2

/-! ### range -/
def rangeD (lo hi : Int) : List D := (List.range (hi - lo).toNat).map fun i => PyData.int (lo + (i : Nat))
def smallI (i : Int) : Bool := decide (-(2 ^ 62) ≤ i) && decide (i < 2 ^ 62)
noncomputable def rng1F : List D → Option (List D)
  | [.int j] => if Ok (smallI j = true) then some (rangeD 0 j) else none
  | _ => none
noncomputable def rng2F : List D → Option (List D)
  | [.int i, .int j] => if Ok ((smallI i && smallI j) = true) then some (rangeD i j) else none
  | _ => none
/-- the items by arguments -/
def mRng (f : List D → Option (List D)) (ms : M (List Ret)) : MI := fun E => (ms E).bind fun rs E1 => match dats E1 rs with
  | some ds => (match f ds with
    | some its => .ok (its, none) E1
    | none => .no)
  | none => .no
theorem smallI_of {i : Int} (h : smallI i = true) : -(2 ^ 62) ≤ i ∧ i < 2 ^ 62 := by
  unfold smallI at h
  simpa using h
section
variable {X : Cx} {cl : Cl} {W : WX} {tg : Expr} {a b c e : Expr} {es : List Expr} {p pos : Pos} {ms : M (List Ret)}
theorem rng_run {f : List D → Option (List D)} {K : PySem.W.Frag} {C : Ctx} {T : List (V × Ret)} {σ : St} {E : SEnv} {P : List D × Option Nat → SEnv → Prop} (h : Run K cl W C T σ P (mRng f ms E)) :
    Run K cl W C T σ (fun rs E1 => ∃ ds its, dats E1 rs = some ds ∧ f ds = some its ∧ P (its, none) E1) (ms E) := (Run.bind h).imp fun rs E1 h1 => by
  split at h1
  · rename_i ds e1
    split at h1
    · rename_i its e2
      exact ⟨ds, its, e1, e2, h1⟩
    · exact h1.elim
  · exact h1.elim
theorem den_rng1 (hg : Gl X "range") (hm : X.mg "range" = none) (ha : PA X [a] (tMA X.K cl W ms)) (hs : starEach [a] X.env = [(false, eval a X.env)] := by rfl) : PI X tg (.Call (.Name "range" p) [a] [] pos) (tMI X.K cl W (mRng rng1F ms)) := PI.imp (pi_range1 hg hm ha hs) fun σ H R h => by
  obtain ⟨C, E, T, R0, h⟩ := h
  refine ⟨C, E, T, R0, (rng_run h).imp fun rs E1 ⟨ds, its, e1, e2, h1⟩ vs H1 R1 b1 => ?_⟩
  obtain ⟨F, ρ, RF⟩ := R1
  have hd := RF.dats rfl b1 e1
  unfold rng1F at e2
  split at e2
  · rename_i j
    split at e2
    · rename_i hj
      cases e2
      obtain ⟨v, rfl, e⟩ : ∃ v, vs = [v] ∧ DpT X.K F H1 v (.int j) := by
        cases hd with
        | cons x y => cases y; exact ⟨_, rfl, x⟩
      cases (show Dp X.K F v _ from e)
      obtain ⟨k1, k2⟩ := smallI_of hj
      refine ⟨j, rfl, k1, k2, h1 _ H1 F ρ (fun _ => True) RF.drop ?_ (fun _ _ _ _ _ => trivial) (fun _ z => nomatch z)⟩
      have := walks_range (K := X.K) (F := F) (lo := 0) (n := j.toNat)
      unfold rangeD
      rw [Int.sub_zero]
      exact this
    · cases e2
  · cases e2
theorem den_rng2 (hg : Gl X "range") (hm : X.mg "range" = none) (ha : PA X [a, b] (tMA X.K cl W ms)) (hs : starEach [a, b] X.env = [(false, eval a X.env), (false, eval b X.env)] := by rfl) (hs2 : starEach [b] X.env = [(false, eval b X.env)] := by rfl) : PI X tg (.Call (.Name "range" p) [a, b] [] pos) (tMI X.K cl W (mRng rng2F ms)) := PI.imp (pi_range2 hg hm ha hs hs2) fun σ H R h => by
  obtain ⟨C, E, T, R0, h⟩ := h
  refine ⟨C, E, T, R0, (rng_run h).imp fun rs E1 ⟨ds, its, e1, e2, h1⟩ vs H1 R1 b1 => ?_⟩
  obtain ⟨F, ρ, RF⟩ := R1
  have hd := RF.dats rfl b1 e1
  unfold rng2F at e2
  split at e2
  · rename_i i j
    split at e2
    · rename_i hj
      cases e2
      obtain ⟨v, w, rfl, e, e'⟩ : ∃ v w, vs = [v, w] ∧ DpT X.K F H1 v (.int i) ∧ DpT X.K F H1 w (.int j) := by
        cases hd with
        | cons x y =>
          cases y with
          | cons x' y' => cases y'; exact ⟨_, _, rfl, x, x'⟩
      cases (show Dp X.K F v _ from e)
      cases (show Dp X.K F w _ from e')
      have hj' := Bool.and_eq_true_iff.mp hj
      obtain ⟨k1, k2⟩ := smallI_of hj'.1
      obtain ⟨k3, k4⟩ := smallI_of hj'.2
      exact ⟨i, j, rfl, ⟨k1, k2, k3, k4⟩, h1 _ H1 F ρ (fun _ => True) RF.drop walks_range (fun _ _ _ _ _ => trivial) (fun _ z => nomatch z)⟩
    · cases e2
  · cases e2
/-- range with a step: n items -/
noncomputable def rng3F : List D → Option (List D)
  | [.int i, .int j, .int c] => if Ok (c ≠ 0 ∧ c.natAbs < 1073741824 ∧ Builtin.Range.small i j c = true ∧ 0 ≤ Builtin.Range.rangeSize i j c) then some ((List.range (Builtin.Range.rangeSize i j c).toNat).map fun k => PyData.int (i + (k : Nat) * c)) else none
  | _ => none
theorem walks_rangeC {K : PySem.W.Frag} {F : Hp} {lo c : Int} {n : Nat} : Walks K F (Itc lo c n) ((List.range n).map fun i => PyData.int (lo + (i : Nat) * c)) (fun _ => True) where
  goes := fun i H hi g => by show i < n; simpa using hi
  stops := fun H g => by show n ≤ _; simp
  yields := fun i d H x H' e g y => by
    obtain ⟨rfl, rfl⟩ := y
    rw [List.getElem?_map] at e
    cases q : (List.range n)[i]? with
    | none => rw [q] at e; cases e
    | some k =>
      rw [q] at e
      cases e
      obtain ⟨_, rfl⟩ := List.getElem?_eq_some_iff.mp q
      exact .inl ⟨rfl, by simpa using Dp.int _⟩
theorem den_rng3 (hg : Gl X "range") (hm : X.mg "range" = none) (ha : PA X [a, b, c] (tMA X.K cl W ms)) (hs : starEach [a, b, c] X.env = (false, eval a X.env) :: starEach [b, c] X.env := by rfl) (hpl : (backTo pos (starEach [b, c] X.env)).any (·.1) = false := by rfl) : PI X tg (.Call (.Name "range" p) [a, b, c] [] pos) (tMI X.K cl W (mRng rng3F ms)) := PI.imp (pi_range3 hg hm ha hs hpl) fun σ H R h => by
  obtain ⟨C, E, T, R0, h⟩ := h
  refine ⟨C, E, T, R0, (rng_run h).imp fun rs E1 ⟨ds, its, e1, e2, h1⟩ vs H1 R1 b1 => ?_⟩
  obtain ⟨F, ρ, RF⟩ := R1
  have hd := RF.dats rfl b1 e1
  unfold rng3F at e2
  split at e2
  · rename_i i j c
    split at e2
    · rename_i hj
      cases e2
      obtain ⟨v, w, u, rfl, e, e', e''⟩ : ∃ v w u, vs = [v, w, u] ∧ DpT X.K F H1 v (.int i) ∧ DpT X.K F H1 w (.int j) ∧ DpT X.K F H1 u (.int c) := by
        cases hd with
        | cons x y =>
          cases y with
          | cons x' y' =>
            cases y' with
            | cons x'' y'' => cases y''; exact ⟨_, _, _, rfl, x, x', x''⟩
      cases (show Dp X.K F v _ from e)
      cases (show Dp X.K F w _ from e')
      cases (show Dp X.K F u _ from e'')
      obtain ⟨k1, k2, k3, k4⟩ := hj
      exact ⟨i, j, c, _, rfl, ⟨k1, k2, k3, (Int.toNat_of_nonneg k4).symm⟩, h1 _ H1 F ρ (fun _ => True) RF.drop walks_rangeC (fun _ _ _ _ _ => trivial) (fun _ z => nomatch z)⟩
    · cases e2
  · cases e2
end

/-! ### list comprehensions -/
def noEx {α : Type} : Res α → Res α
  | .ok a E => .ok a E
  | _ => .no
def canHide : Slot → Bool
  | .un => true
  | .val _ => true
  | .exc _ => true
  | _ => false
noncomputable def mLcL (st : D → SEnv → Option SEnv) (wp : SEnv → Option SEnv) (mt : M Bool) (me : M Ret) : List D → List D → SEnv → Res (List D)
  | [], acc, E => .ok acc E
  | d :: ds, acc, E => match st d E with
    | none => .no
    | some E0 => (noEx (mt E0)).bind fun b E1 => if b = true then (noEx (me E1)).bind fun r E2 => (match take E2 r with
        | some (y, E3) => if Ok (acc.length < 1000000) then (match wp E3 with
          | some E4 => mLcL st wp mt me ds (acc ++ [y]) E4
          | none => .no) else .no
        | none => .no) else (match wp E1 with
          | some E4 => mLcL st wp mt me ds acc E4
          | none => .no)
/-- the comprehension's own names, at the slots vs -/
def wipeE : List Nat → SEnv → SEnv
  | [], E => E
  | i :: vs, E => (wipeE vs E).set i .un
def isFree (E : SEnv) (i : Nat) : Bool := match E[i]? with
  | some s => s.free
  | none => false
def isHid (E : SEnv) (i : Nat) : Bool := match E[i]? with
  | some s => canHide s
  | none => false
def wpE (vs : List Nat) (E : SEnv) : Option SEnv := if vs.all (isFree E) = true then some (wipeE vs E) else none
def restE (E1 : SEnv) : List Nat → SEnv → SEnv
  | [], E => E
  | i :: vs, E => restE E1 vs (E.set i (E1.getD i .un))
def mYes : M Bool := fun E => .ok true E
noncomputable def mLc (vs : List Nat) (st : D → SEnv → Option SEnv) (mi : MI) (mt : M Bool) (me : M Ret) : M Ret := fun E => (mi E).bind fun il E1 => if vs.all (isHid E1) = true then (unlockX il.2 (mLcL st (wpE vs) mt me il.1 [] (wipeE vs (lockE E1 il.2)))).bind fun ds E3 => .ok (.own (.lst ds)) (restE E1 vs E3) else .no
def st1 (i : Nat) (d : D) (E : SEnv) : Option SEnv := some (E.set i (.val d))
def st2 (i j : Nat) (d : D) (E : SEnv) : Option SEnv := match d with
  | .tuple [a, b] => some ((E.set i (.val a)).set j (.val b))
  | _ => none
section
variable {K : PySem.W.Frag} {cl : Cl} {C : Ctx} {F F' : Hp} {ρ ρ' : Own} {E E' : SEnv} {T T' : List (V × Ret)} {σ σ' : St} {H H' : Hp} {i j k : Nat} {p : Addr} {v : V} {r : Ret} {o : MO} {d : D}
/-- a slot is forgotten, or takes data -/
theorem RelF.put {s s' : Slot} {w : Option V} (R : RelF K cl C F ρ E T σ H) (e : E[i]? = some s) (hs : s.free = true) (new : SlotOk K cl C F ρ H i w s') : RelF K cl C F ρ (E.set i s') T (σ.set i w) H where
  len := by simpa using R.len
  f0 := R.f0
  fh := R.fh
  h0 := R.h0
  hf := R.hf
  tb := R.tb
  nt := R.nt
  sl := fun j w u e1 e2 => by
    rcases set_cases e2 with ⟨rfl, rfl, _⟩ | ⟨n, e2⟩
    · rcases set_cases e1 with ⟨_, rfl, _⟩ | ⟨n, _⟩
      · exact new
      · exact absurd rfl n
    · rw [List.getElem?_set_ne (Ne.symm n)] at e1
      exact R.sl j w u e1 e2
  ln := fun j p e1 => by
    obtain ⟨o, h1, h2⟩ := R.ln j p e1
    have n : j ≠ i := fun z => by subst z; rw [e] at h1; cases h1; cases hs
    exact ⟨o, by rw [List.getElem?_set_ne (Ne.symm n)]; exact h1, by rw [List.getElem?_set_ne (Ne.symm n)]; exact h2⟩
  tm := R.tm
/-- a temporary list grows -/
theorem RelF.mut_tmp {o' : MO} {ho' : HO} (R : RelF K cl C F ρ E (T ++ [(.ref p, .own o)]) σ H) (m : MRep K F ho' o') : RelF K cl C F ρ E (T ++ [(.ref p, .own o')]) σ (upd H p ho') := by
  obtain ⟨p', e1, h1, h2⟩ := R.tm T.length (.ref p) (.own o) (by simp)
  cases e1
  have hq : ∀ g, g ≠ Tag.t T.length → ∀ q o, OwnAt K F ρ H g q o → OwnAt K F ρ (upd H p ho') g q o := fun g n q o h' =>
    h'.grow (L2.Same.refl F) (fun u e => by rw [upd_ne (h'.apart h1 n)]; exact e) h'.fn rfl
  refine { len := R.len, f0 := R.f0, fh := fun q u e' => ?_, h0 := fun q u e' l => ?_, hf := R.hf, tb := ⟨let ⟨_, e0, m0, _⟩ := h1; tabs_mut R.tb.1 e0 m0, R.tb.2⟩, nt := R.nt, sl := fun j w s e1 e2 => (R.sl j w s e1 e2).grow (L2.Same.refl F) (hq _ fun z => by cases z), ln := R.ln, tm := fun k w r e' => ?_ }
  · rw [upd_ne (ne_of_none e' h1.fn)]; exact R.fh q u e'
  · rw [upd_ne (ne_of_none e' h2)]; exact R.h0 q u e' l
  · rcases at_snoc e' with e2 | ⟨hk, e2⟩
    · have hlt := (List.getElem?_eq_some_iff.mp e2).1
      exact (R.tm k w r (by rw [List.getElem?_append_left hlt]; exact e2)).grow (L2.Same.refl F) (hq _ fun z => by cases z; exact Nat.lt_irrefl _ hlt)
    · cases e2
      subst hk
      exact ⟨p, rfl, ⟨ho', upd_same, m, h1.fn, h1.tag⟩, h2⟩
theorem noEx_run {α : Type} {W W' : WX} {P : α → SEnv → Prop} {r : Res α} (h : Run K cl W C T σ P (noEx r)) : Run K cl W' C T' σ' P r := by
  cases r with
  | ok a E => exact h
  | ex x E => exact h.elim
  | no => exact h
theorem Locked.run1 {α : Type} {P : α → SEnv → Prop} {lk : Option Nat} {C' : Ctx} {W : WX} {r : Res α} (h : Run K cl W C T σ P (unlockX lk r)) (hx : ∀ x E, r ≠ .ex x E) : Run K cl W C' T' σ' (fun a E => ∃ E', unlockE E lk = some E' ∧ P a E') r := by
  cases r with
  | no => exact h
  | ex x E' => exact absurd rfl (hx x E')
  | ok f E' =>
    unfold unlockX at h
    dsimp only at h
    split at h
    · rename_i E'' e
      exact ⟨E'', e, h⟩
    · exact h.elim
end
theorem noEx_ne {α : Type} {r : Res α} {x : Exn} {E : SEnv} : noEx r ≠ .ex x E := by cases r <;> intro h <;> cases h
theorem lcl_ne {st : D → SEnv → Option SEnv} {wp : SEnv → Option SEnv} {mt : M Bool} {me : M Ret} {x : Exn} {E' : SEnv} : ∀ {ds acc : List D} {E : SEnv}, mLcL st wp mt me ds acc E ≠ .ex x E'
  | [], acc, E, h => by cases h
  | d :: ds, acc, E, h => by
    unfold mLcL at h
    split at h
    · cases h
    · rename_i E0 _
      cases q : noEx (mt E0) with
      | no => rw [q] at h; cases h
      | ex x E => exact noEx_ne q
      | ok b E1 =>
        rw [q] at h
        simp only [bind_ok] at h
        split at h
        · cases q2 : noEx (me E1) with
          | no => rw [q2] at h; cases h
          | ex x E => exact noEx_ne q2
          | ok r E2 =>
            rw [q2] at h
            simp only [bind_ok] at h
            split at h
            · split at h
              · split at h
                · exact lcl_ne h
                · cases h
              · cases h
            · cases h
        · split at h
          · exact lcl_ne h
          · cases h
abbrev W0 : WX := fun _ _ _ _ => False
/-- what a comprehension's target must do -/
def StOk (K : PySem.W.Frag) (cl : Cl) (g : TG) (st : D → SEnv → Option SEnv) (vs : List Nat) : Prop :=
  ∀ (C : Ctx) (F : Hp) (ρ : Own) (E E0 : SEnv) (T : List (V × Ret)) (σ : St) (H : Hp) (x : V) (d : D) (Q : St → Hp → Prop), RelF K cl C F ρ E T (wipe σ vs) H → Dp K F x d → (∀ i ∈ vs, E[i]? = some .un) → st d E = some E0 →
    (∀ σ2, wipe σ2 vs = wipe σ vs → Rel K cl C E0 T σ2 H → Q σ2 H) → g x (wipe σ vs) H Q
section
variable {K : PySem.W.Frag} {cl : Cl} {C : Ctx} {F F' : Hp} {ρ ρ' : Own} {E E' : SEnv} {T T' : List (V × Ret)} {σ σ' : St} {H H' : Hp} {i j k : Nat} {p : Addr} {v : V} {r : Ret} {o : MO} {d : D}
theorem stOk1 (i : Nat) : StOk K cl (gName i) (st1 i) [i] := fun C F ρ E E0 T σ H x d Q R hd hu e h => by
  cases e
  refine h _ ?_ (R.put (hu i (by simp)) rfl (w := some x) (s' := .val d) ⟨x, rfl, hd⟩).rel
  show ((σ.set i none).set i (some x)).set i none = σ.set i none
  rw [List.set_set, List.set_set]
theorem set_swap {α : Type} {l : List α} {i j : Nat} {x y : α} (h : i ≠ j) : (l.set i x).set j y = (l.set j y).set i x := List.set_comm x y h
theorem stOk2 (i j : Nat) (hij : i ≠ j) : StOk K cl (gTup K 2 (gCons (gName i) (gCons (gName j) gNil))) (st2 i j) [i, j] := fun C F ρ E E0 T σ H x d Q R hd hu e h => by
  unfold st2 at e
  split at e
  · rename_i a b
    cases e
    obtain ⟨q, x1, x2, rfl, h1, h2, h3⟩ : ∃ q x1 x2, x = .ref q ∧ SqT K F q [x1, x2] ∧ Dp K F x1 a ∧ Dp K F x2 b := by
      cases hd with
      | tup h1 h2 =>
        cases h2 with
        | cons g1 g2 =>
          cases g2 with
          | cons g3 g4 => cases g4; exact ⟨_, _, _, rfl, h1.sq, g1, g3⟩
    refine ⟨q, _, rfl, Same.seqT R.fh h1, rfl, x1, [x2], rfl, x2, [], rfl, rfl, ?_⟩
    refine h _ ?_ ((R.put (hu i (by simp)) rfl (w := some x1) (s' := .val a) ⟨x1, rfl, h2⟩).put (s := .un) (by rw [List.getElem?_set_ne hij]; exact hu j (by simp)) rfl (w := some x2) (s' := .val b) ⟨x2, rfl, h3⟩).rel
    show (((((σ.set j none).set i none).set i (some x1)).set j (some x2)).set j none).set i none = (σ.set j none).set i none
    rw [List.set_set, List.set_set, set_swap hij, List.set_set, List.set_set]
  · cases e
theorem free_at (h : isFree E i = true) : ∃ s, E[i]? = some s ∧ s.free = true := by
  unfold isFree at h
  split at h
  · rename_i s e; exact ⟨s, e, h⟩
  · cases h
theorem hid_at (h : isHid E i = true) : ∃ s, E[i]? = some s ∧ canHide s = true := by
  unfold isHid at h
  split at h
  · rename_i s e; exact ⟨s, e, h⟩
  · cases h
theorem free_of_hid (h : isHid E i = true) : isFree E i = true := by
  obtain ⟨s, e, hs⟩ := hid_at h
  unfold isFree
  rw [e]
  cases s <;> first | rfl | cases hs
theorem wipeE_len : ∀ (vs : List Nat) (E : SEnv), (wipeE vs E).length = E.length
  | [], E => rfl
  | i :: vs, E => by show ((wipeE vs E).set i .un).length = _; rw [List.length_set, wipeE_len vs E]
theorem wipeE_at : ∀ (vs : List Nat) (E : SEnv) (i : Nat), i ∈ vs → i < E.length → (wipeE vs E)[i]? = some .un
  | i :: vs, E, j, h, hl => by
    show ((wipeE vs E).set i .un)[j]? = _
    by_cases e : j = i
    · subst e; rw [List.getElem?_set_self (by rw [wipeE_len]; exact hl)]
    · rw [List.getElem?_set_ne (Ne.symm e)]
      exact wipeE_at vs E j ((List.mem_cons.mp h).resolve_left e) hl
theorem wipeE_other : ∀ (vs : List Nat) (E : SEnv) (i : Nat), i ∉ vs → (wipeE vs E)[i]? = E[i]?
  | [], E, i, h => rfl
  | k :: vs, E, j, h => by
    show ((wipeE vs E).set k .un)[j]? = _
    rw [List.getElem?_set_ne (fun e => h (by rw [e]; exact List.mem_cons_self))]
    exact wipeE_other vs E j fun z => h (List.mem_cons_of_mem _ z)
/-- the slots vs are forgotten -/
theorem RelF.wipes (R : RelF K cl C F ρ E T σ H) : ∀ (vs : List Nat), (∀ i ∈ vs, isFree E i = true) → RelF K cl C F ρ (wipeE vs E) T (wipe σ vs) H
  | [], _ => R
  | i :: vs, h => by
    have R1 := RelF.wipes R vs fun j hj => h j (List.mem_cons_of_mem _ hj)
    obtain ⟨s, e, hs⟩ := free_at (h i List.mem_cons_self)
    by_cases hi : i ∈ vs
    · exact R1.put (wipeE_at vs E i hi (List.getElem?_eq_some_iff.mp e).1) rfl trivial
    · exact R1.put (by rw [wipeE_other vs E i hi]; exact e) hs trivial
theorem wipe_other : ∀ (vs : List Nat) (σ : St) (i : Nat), i ∉ vs → (wipe σ vs)[i]? = σ[i]?
  | [], σ, i, h => rfl
  | k :: vs, σ, j, h => by
    show ((wipe σ vs).set k none)[j]? = _
    rw [List.getElem?_set_ne (fun e => h (by rw [e]; exact List.mem_cons_self))]
    exact wipe_other vs σ j fun z => h (List.mem_cons_of_mem _ z)
theorem set_at {α : Type} {l : List α} {i : Nat} {x : α} (h : l[i]? = some x) : l.set i x = l := by
  apply List.ext_getElem?
  intro n
  by_cases e : n = i
  · subst e; rw [List.getElem?_set_self (List.getElem?_eq_some_iff.mp h).1, h]
  · rw [List.getElem?_set_ne (Ne.symm e)]
/-- they come back -/
theorem RelF.rest {E1 : SEnv} : ∀ (vs : List Nat) (E : SEnv), vs.Nodup → RelF K cl C F ρ E T (wipe σ vs) H → (∀ i ∈ vs, ∃ s w, E1[i]? = some s ∧ σ[i]? = some w ∧ SlotOk K cl C F ρ H i w s) → (∀ i ∈ vs, isFree E i = true) → RelF K cl C F ρ (restE E1 vs E) T σ H
  | [], E, _, R, _, _ => R
  | i :: vs, E, hn, R, h, hf => by
    obtain ⟨s, w, e1, e2, so⟩ := h i List.mem_cons_self
    obtain ⟨s', e3, hs⟩ := free_at (hf i List.mem_cons_self)
    have hn' := List.nodup_cons.mp hn
    have R1 := R.put e3 hs so
    have eσ : (wipe σ (i :: vs)).set i w = wipe σ vs := by
      show ((wipe σ vs).set i none).set i w = _
      rw [List.set_set]
      exact set_at (by rw [wipe_other vs σ i hn'.1]; exact e2)
    rw [eσ] at R1
    have eg : E1.getD i .un = s := by rw [List.getD_eq_getElem?_getD, e1]; rfl
    show RelF K cl C F ρ (restE E1 vs (E.set i (E1.getD i .un))) T σ H
    rw [eg]
    refine RelF.rest vs _ hn'.2 R1 (fun j hj => h j (List.mem_cons_of_mem _ hj)) fun j hj => ?_
    have nj : j ≠ i := fun z => hn'.1 (z ▸ hj)
    unfold isFree
    rw [List.getElem?_set_ne (Ne.symm nj)]
    exact hf j (List.mem_cons_of_mem _ hj)
theorem SlotOk.hid {s : Slot} {w : Option V} (h : SlotOk K cl C F ρ H i w s) (hs : canHide s = true) (e : Same F F') : SlotOk K cl C F' ρ' H' i w s := by
  cases s with
  | un => trivial
  | val d => obtain ⟨x, e1, h1⟩ := h; exact ⟨x, e1, dp_mono e h1⟩
  | exc x => obtain ⟨a, e1, h1⟩ := h; exact ⟨a, e1, excOk_mono e h1⟩
  | fn o => cases hs
  | nst b o => cases hs
  | own o => cases hs
  | lnt o => cases hs
  | lck o => cases hs
end
section
variable {X : Cx} {cl : Cl} {W : WX}
theorem tLc_of {vs : List Nat} {g : TG} {st : D → SEnv → Option SEnv} {mi : MI} {mt : M Bool} {me : M Ret} (K : PySem.W.Frag) (hst : StOk K cl g st vs) (hnd : vs.Nodup) {σ : St} {H : Hp} {Q : VK} (h : tM K cl W (mLc vs st mi mt me) σ H Q) : tLc (tMI K cl W mi) g (tMT K cl W0 mt) (tM K cl W0 me) vs σ H Q := by
  obtain ⟨C, E, T, R, h⟩ := h
  refine ⟨C, E, T, R, (Run.bind h).imp fun il E1 h1 J H1 F ρ G R1 wk hG hl D hD => ?_⟩
  obtain ⟨its, lk⟩ := il
  by_cases hs : vs.all (isHid E1) = true
  case neg => rw [if_neg hs] at h1; exact h1.elim
  rw [if_pos hs] at h1
  have hhid : ∀ i ∈ vs, isHid E1 i = true := List.all_eq_true.mp hs
  -- the locked state
  obtain ⟨C', R2, L⟩ := R1.locks hl
  have h2 := Locked.run1 (C' := C') (T' := T) (σ' := wipe σ vs) (Run.bind h1) (fun x E => lcl_ne)
  clear h1 h R
  have hij : ∀ j, lk = some j → j ∉ vs := fun j e z => by
    obtain ⟨o, e2⟩ := hl j e
    obtain ⟨s, e3, hs⟩ := hid_at (hhid j z)
    rw [e2] at e3; cases e3; cases hs
  have esL : ∀ i ∈ vs, (lockE E1 lk)[i]? = E1[i]? := fun i hi => by
    cases lk with
    | none => rfl
    | some j =>
      obtain ⟨o, e2⟩ := hl j rfl
      have q : lockE E1 (some j) = E1.set j (.lck o) := by simp only [lockE]; rw [e2]
      rw [q, List.getElem?_set_ne (fun (z : j = i) => hij j rfl (by rw [z]; exact hi))]
  obtain ⟨F2, ρ2, R2'⟩ := R2
  have hfreeL : ∀ i ∈ vs, isFree (lockE E1 lk) i = true := fun i hi => by
    have := free_of_hid (hhid i hi)
    unfold isFree at this ⊢
    rw [esL i hi]; exact this
  -- the walk
  have kG : ∀ {E T' σ' H'}, Rel K cl C' E T' σ' H' → G H' := fun {E T' σ' H'} R => by
    obtain ⟨F', ρ', R'⟩ := R
    exact hG F' H' (by rw [← L.f0]; exact R'.f0) R'.fh (fun j p e1 e2 => L.keep _ _ _ _ _ _ R' j p e1 e2)
  have R3 : Rel K cl C' (wipeE vs (lockE E1 lk)) (T ++ [(.ref D, .own (.lst []))]) (wipe σ vs) (upd H1 D (.lst [])) := ((R2'.wipes vs hfreeL).push_own hD (o := .lst []) ⟨[], rfl, .nil⟩).rel
  have top : ∀ {E : SEnv}, (∀ i ∈ vs, isFree E i = true) → ∀ i ∈ vs, (wipeE vs E)[i]? = some .un := fun {E} h i hi => by
    obtain ⟨s, e, _⟩ := free_at (h i hi)
    exact wipeE_at vs E i hi (List.getElem?_eq_some_iff.mp e).1
  let Fin : List MP.D → SEnv → Prop := fun a E' => ∃ E'', unlockE E' lk = some E'' ∧ Run K cl W C T σ (fun r E' => ∀ v H', Rel K cl C E' (T ++ [(v, r)]) σ H' → Bor σ v r → Q v H') ((fun ds E3 => Res.ok (Ret.own (.lst ds)) (restE E1 vs E3)) a E'')
  let Inv' : Nat → Hp → Prop := fun k H' => ∃ E acc, Rel K cl C' E (T ++ [(.ref D, .own (.lst acc))]) (wipe σ vs) H' ∧ (∀ i ∈ vs, E[i]? = some .un) ∧ Run K cl W C' T (wipe σ vs) Fin (mLcL st (wpE vs) mt me (its.drop k) acc E)
  refine ⟨fun k n H' => n = its.length - k ∧ k ≤ its.length ∧ Inv' k H', ⟨its.length, by simp, Nat.zero_le _, _, [], R3, top hfreeL, by simpa using h2⟩, ?_⟩
  rintro k n H' ⟨rfl, hk, E, acc, R4, hun, h4⟩
  by_cases hlt : k < its.length
  · refine .inr ⟨wk.goes k H' hlt (kG R4), Inv' (k + 1), fun H' q => ⟨its.length - (k + 1), by omega, rfl, hlt, q⟩, fun x H2 y => ?_⟩
    rw [List.drop_eq_getElem_cons hlt] at h4
    unfold mLcL at h4
    split at h4
    · exact h4.elim
    rename_i E0 e0
    -- the item in its slot
    obtain ⟨F4, ρ4, R4'⟩ := id R4
    have fs : Same F F4 := by rw [← L.f0]; exact R4'.f0
    have go : ∀ {F5 : Hp} {ρ5 : Own}, RelF K cl C' F5 ρ5 E (T ++ [(.ref D, .own (.lst acc))]) (wipe σ vs) H2 → Dp K F5 x its[k] → g x (wipe σ vs) H2 fun σ2 H2 => wipe σ2 vs = wipe σ vs ∧ tMT K cl W0 mt σ2 H2 fun b H3 =>
        if b = true then tM K cl W0 me σ2 H3 fun y H4 => ∃ acc, H4 D = some (.lst acc) ∧ acc.length < sizeLine ∧ Inv' (k + 1) (upd H4 D (.lst (acc ++ [y]))) else Inv' (k + 1) H3 := fun {F5 ρ5} R5 hd => by
      refine hst C' F5 ρ5 E E0 _ σ H2 x its[k] _ R5 hd hun e0 fun σ2 hw R6 => ⟨hw, C', E0, _, R6, noEx_run ((Run.bind h4).imp fun b E6 h5 H3 R7 => ?_)⟩
      have frees : ∀ {E : SEnv}, vs.all (isFree E) = true → ∀ i ∈ vs, isFree E i = true := fun h => List.all_eq_true.mp h
      dsimp only
      by_cases hb : b = true
      · rw [if_pos hb] at h5 ⊢
        refine ⟨C', E6, _, R7, noEx_run ((Run.bind h5).imp fun r E7 h6 y7 H4 R8 b8 => ?_)⟩
        split at h6
        · rename_i y E8 e8
          split at h6
          · rename_i hacc
            split at h6
            · rename_i E9 e9
              unfold wpE at e9
              split at e9
              · rename_i hfr
                cases e9
                obtain ⟨F8, ρ8, R8'⟩ := R8
                obtain ⟨F9, f9, R9, d9⟩ := RelF.take (T := T ++ [(.ref D, .own (.lst acc))]) (T2 := []) R8' b8 e8
                have R9' := R9.drop
                obtain ⟨p, ep, ⟨ho, hh, ⟨ws, rfl, hd9⟩, hf9, ht9⟩, h09⟩ := R9'.tm T.length (.ref D) (.own (.lst acc)) (by simp)
                cases ep
                refine ⟨ws, hh, by rw [dps_len hd9]; exact Nat.lt_of_lt_of_le hacc (by rw [sizeLine_eq]; decide), ?_⟩
                have R10 := (R9'.mut_tmp (o' := .lst (acc ++ [y])) (ho' := .lst (ws ++ [y7])) ⟨_, rfl, dps_app hd9 (.cons d9 .nil)⟩).wipes vs (frees hfr)
                rw [hw] at R10
                exact ⟨_, _, R10.rel, top (frees hfr), h6⟩
              · cases e9
            · exact h6.elim
          · exact h6.elim
        · exact h6.elim
      · rw [if_neg hb] at h5 ⊢
        split at h5
        · rename_i E9 e9
          unfold wpE at e9
          split at e9
          · rename_i hfr
            cases e9
            obtain ⟨F7, ρ7, R7'⟩ := R7
            have R10 := R7'.wipes vs (frees hfr)
            rw [hw] at R10
            exact ⟨_, _, R10.rel, top (frees hfr), h5⟩
          · cases e9
        · exact h5.elim
    rcases wk.yields k its[k] H' x H2 (List.getElem?_eq_getElem hlt) (kG R4) y with ⟨rfl, hd⟩ | ⟨p, us, ds, ob, nob, e, rfl, hn, rfl, hd⟩
    · exact go R4' (dp_mono fs hd)
    · obtain ⟨R6, f6⟩ := R4'.lay hn (.frz ob (.tup us))
      refine go R6 ?_
      rw [e]
      exact .tup (.new nob) (dps_mono f6 (dps_mono fs hd))
  · have e : k = its.length := by omega
    subst e
    rw [List.drop_length] at h4
    obtain ⟨E'', e1, h5⟩ := (h4 : Fin acc E)
    refine .inl ⟨wk.stops H' (kG R4), ?_⟩
    obtain ⟨F4, ρ4, R4'⟩ := id R4
    have fs : Same F F4 := by rw [← L.f0]; exact R4'.f0
    have R5 := L.un _ _ _ _ _ _ _ R4' e1
    have un'' : ∀ i ∈ vs, E''[i]? = some .un := fun i hi => by
      cases lk with
      | none => cases e1; exact hun i hi
      | some j =>
        simp only [unlockE] at e1
        split at e1
        · cases e1
          rw [List.getElem?_set_ne (fun (z : j = i) => hij j rfl (by rw [z]; exact hi))]
          exact hun i hi
        · cases e1
    have R6 := R5.rest (E1 := E1) vs E'' hnd (fun i hi => by
      obtain ⟨s, e2, hs⟩ := hid_at (hhid i hi)
      obtain ⟨w, hw⟩ := slot_there R1 e2
      exact ⟨s, w, e2, hw, (R1.sl i w s hw e2).hid hs fs⟩) (fun i hi => by unfold isFree; rw [un'' i hi]; rfl)
    exact h5 (.ref D) H' R6.rel trivial
/-- the block's rules stand around -/
theorem den_lc {elt tg iter : Expr} {ifs : List Expr} {scope : Scope} {own : List (Str × Nat)} {pos : Pos} {g : TG} {st : D → SEnv → Option SEnv} {mi : MI} {mt : M Bool} {me : M Ret} (hc : X.calm = true) (hN : X.N.Nodup) (hst : StOk X.K cl g st (own.map (·.2))) (hnd : (own.map (·.2)).Nodup) (hi : PI X tg iter (tMI X.K cl W mi)) (ok : BlkOk X.N X.env.scope scope own)
    (hg : ∀ (s : Shared) (H : Hp) (C : Addr) (cl : List (Str × Addr)) (fp : List Addr), PG (X.blk s H scope (compEnvC scope cl C X.env) fp) tg g) (ht : ∀ (s : Shared) (H : Hp) (C : Addr) (cl' : List (Str × Addr)) (fp : List Addr), PTs (X.blk s H scope (compEnvC scope cl' C X.env) fp) ifs (tMT X.K cl W0 mt))
    (he : ∀ (s : Shared) (H : Hp) (C : Addr) (cl' : List (Str × Addr)) (fp : List Addr), PE (X.blk s H scope (compEnvC scope cl' C X.env) fp) elt (tM X.K cl W0 me)) (hs : ∀ x, foldedSetIterable iter X.env x = pure x := by intro _; rfl) :
    PE X (.ListComp elt [⟨tg, iter, ifs, 0⟩] scope pos) (tM X.K cl W (mLc (own.map (·.2)) st mi mt me)) := PE.imp (pe_lc hc hN hi ok hg ht he hs) fun σ H Q h => tLc_of X.K hst hnd h
theorem den_setLc (i : Nat) {y : Str} {py : Pos} {elt tg iter : Expr} {ifs : List Expr} {scope : Scope} {own : List (Str × Nat)} {pos spos : Pos} {g : TG} {st : D → SEnv → Option SEnv} {mi : MI} {mt : M Bool} {me : M Ret} (hc : X.calm = true) (hN : X.N.Nodup) (hst : StOk X.K cl g st (own.map (·.2))) (hnd : (own.map (·.2)).Nodup) (hyl : X.env.scope.names.lookup y = some .local)
    (hsw : swapsWith (.ListComp elt [⟨tg, iter, ifs, 0⟩] scope pos) (some (.Name y py)) spos.line X.env = pure true) (hi : PI X tg iter (tMI X.K cl W mi)) (ok : BlkOk X.N X.env.scope scope own)
    (hg : ∀ (s : Shared) (H : Hp) (C : Addr) (cl : List (Str × Addr)) (fp : List Addr), PG (X.blk s H scope (compEnvC scope cl C X.env) fp) tg g) (ht : ∀ (s : Shared) (H : Hp) (C : Addr) (cl' : List (Str × Addr)) (fp : List Addr), PTs (X.blk s H scope (compEnvC scope cl' C X.env) fp) ifs (tMT X.K cl W0 mt))
    (he : ∀ (s : Shared) (H : Hp) (C : Addr) (cl' : List (Str × Addr)) (fp : List Addr), PE (X.blk s H scope (compEnvC scope cl' C X.env) fp) elt (tM X.K cl W0 me)) (hy : X.N[i]? = some y := by rfl) (hs : ∀ x, foldedSetIterable iter X.env x = pure x := by intro _; rfl) :
    PS X (.Assign [.Name y py] (.ListComp elt [⟨tg, iter, ifs, 0⟩] scope pos) spos) (tMS X.K cl W (mSet i (mLc (own.map (·.2)) st mi mt me))) := PS.imp (ps_setLc hc hN hy hyl hsw hi ok hg ht he hs) fun D σ H h => by
  have h' := tS_first h
  refine tLc_of X.K hst hnd ?_
  obtain ⟨C, E, T, R, hr⟩ := h'
  refine ⟨C, E, T, R, hr.imp fun r E1 k v H1 R1 b1 => ?_⟩
  obtain ⟨C2, T2, r2, E2, R2, b2, h2⟩ := k v H1 R1 b1
  cases q : mStore i r2 E2 with
  | some E3 =>
    rw [q] at h2
    obtain ⟨F, ρ, RF⟩ := R2
    obtain ⟨F', ρ', _, R'⟩ := RF.store b2 q
    exact h2 _ _ R'.rel
  | none => rw [q] at h2; exact (h2 : False).elim
theorem den_yes {Y : Cx} {K : PySem.W.Frag} : PTs Y [] (tMT K cl W0 mYes) := ⟨fun pins s σ H Q I h => by
  obtain ⟨C, E, T, R, h⟩ := h
  exact pts_nil.run pins s σ H Q I (h H R)⟩
theorem den_onlyif {Y : Cx} {c : Expr} {K : PySem.W.Frag} {t : M Bool} (h : PT Y c (tMT K cl W0 t)) : PTs Y [c] (tMT K cl W0 t) := pts_one h
end

/-! ### a def's call -/
def mCall (g : List D → FR) (ms : M (List Ret)) : M Ret := fun E => (ms E).bind fun rs E1 => match dats E1 rs with
  | none => .no
  | some ds => (match g ds with
    | .no => .no
    | .ex x => .ex x E1
    | .ok v => if v.pure = true then .ok v.ret E1 else (match takes E1 rs with
      | some (_, E2) => .ok v.ret E2
      | none => .no))
section
variable {K : PySem.W.Frag} {cl : Cl} {C : Ctx} {E E' : SEnv} {σ : St}
theorem take_dat {r : Ret} {d d' : D} (h : take E r = some (d, E')) (h2 : dat E r = some d') : d = d' := by
  cases r with
  | val x => cases h; cases h2; rfl
  | own o => cases o with
    | lst ds => cases h; cases h2; rfl
    | dic _ => cases h
    | dct _ => cases h
    | raw _ => cases h
  | bor i =>
    unfold take at h
    dsimp only at h
    have h2' : (E[i]?).bind Slot.dat = some d' := h2
    split at h
    · rename_i x e; rw [e] at h2'; cases h; cases h2'; rfl
    · rename_i ds e; rw [e] at h2'; cases h; cases h2'; rfl
    · cases h
theorem take_env {r r2 : Ret} {d d' : D} (h : take E r = some (d, E')) (h2 : dat E r2 = some d') : dat E' r2 = some d' := by
  cases r with
  | val x => cases h; exact h2
  | own o => cases o with
    | lst ds => cases h; exact h2
    | dic _ => cases h
    | dct _ => cases h
    | raw _ => cases h
  | bor i =>
    unfold take at h
    dsimp only at h
    split at h
    · cases h; exact h2
    · rename_i ds e
      cases h
      cases r2 with
      | val x => exact h2
      | own o => cases o <;> exact h2
      | bor j =>
        have h2' : (E[j]?).bind Slot.dat = some d' := h2
        show ((E.set i (.val (.list ds)))[j]?).bind Slot.dat = some d'
        by_cases hij : j = i
        · subst hij
          rw [e] at h2'
          rw [List.getElem?_set_self (List.getElem?_eq_some_iff.mp e).1]
          exact h2'
        · rw [List.getElem?_set_ne (Ne.symm hij)]; exact h2'
    · cases h
theorem dats_env {r : Ret} {d : D} (h : take E r = some (d, E')) : ∀ {rs : List Ret} {ds : List D}, dats E rs = some ds → dats E' rs = some ds
  | [], _, e => e
  | r2 :: rs, ds, e => by
    unfold dats at e ⊢
    split at e
    · rename_i d1 ds1 e1 e2
      cases e
      rw [take_env h e1, dats_env h e2]
    · cases e
theorem takes_dats : ∀ {rs : List Ret} {E E' : SEnv} {ds ds' : List D}, takes E rs = some (ds, E') → dats E rs = some ds' → ds = ds'
  | [], E, E', ds, ds', h, h2 => by cases h; cases h2; rfl
  | r :: rs, E, E', ds, ds', h, h2 => by
    unfold takes at h
    unfold dats at h2
    split at h
    · rename_i d E1 e1
      split at h
      · rename_i ds1 E2 e2
        cases h
        split at h2
        · rename_i d1 ds2 g1 g2
          cases h2
          rw [take_dat e1 g1, takes_dats e2 (dats_env e1 g2)]
        · cases h2
      · cases h
    · cases h
end
section
variable {X : Cx} {cl : Cl} {W : WX} {e : Expr} {es : List Expr} {x : Str} {p pos : Pos} {ms : M (List Ret)} {g : List D → FR} {k : Nat} {f : Addr} {fd : FuncData} {ps : List Str}
theorem den_call (F : FnOk X.prog X.w X.K X.mg X.base (L2.CX X.prog X.w) k f fd ps (spM X.K cl g)) (tk : Takes X W) (hr : Room k X.A) (hg : Gl X x) (hm : X.mg x = some (.ref f)) (hk : PySem.W.keepIn X.K (.ref f) = true) (hb : Binds X.K fd ps [])
    (ha : PA X (e :: es) (tMA X.K cl W ms)) (hdb : (x == ("__debug__" : Str)) = false := by decide) (he : starEach (e :: es) X.env = (false, eval e X.env) :: starEach es X.env := by rfl) (hpl : (backTo pos (starEach es X.env)).any (·.1) = false := by rfl) :
    PE X (.Call (.Name x p) (e :: es) [] pos) (tM X.K cl W (mCall g ms)) := PE.imp (pe_callS F hr hg hm hk hb (fun σ => passAt tk σ) ha hdb he hpl) fun σ H Q h => by
  obtain ⟨C, E, T, R, h⟩ := h
  refine ⟨C, E, T, R, (Run.bind h).imp fun rs E1 h1 vs H1 R1 b1 => ?_⟩
  split at h1
  · exact h1.elim
  rename_i ds e1
  obtain ⟨F1, ρ1, RF⟩ := R1
  have hd := RF.dats rfl b1 e1
  split at h1
  · exact h1.elim
  · rename_i x e2
    refine ⟨lendF F1 H1 vs, ds, lend_tb RF.tb, lend_same RF.fh, lend_dps RF.fh (fun _ h => h) hd, ?_⟩
    rw [e2]
    intro d H' hH hx
    exact h1 d H' ((RF.drop.after hH (L2.Same.refl F1) (same_stp RF hH) (fun _ _ _ => rfl)).rel) (hx.weak fun _ z => RF.new_H0 z)
  · rename_i rv e2
    split at h1
    · rename_i hp
      refine ⟨lendF F1 H1 vs, ds, lend_tb RF.tb, lend_same RF.fh, lend_dps RF.fh (fun _ h => h) hd, ?_⟩
      rw [e2]
      intro v H' F3 hH h3 h4 hk3 hv
      obtain ⟨R2, b2⟩ := RF.drop.call_pure hH h3 h4 hk3 hv hp
      exact h1 v H' R2 b2
    · split at h1
      · rename_i ds' E2 e3
        obtain ⟨F2, f2, R2, d2⟩ := RF.takes b1 e3
        have : ds' = ds := takes_dats e3 e1
        subst this
        refine ⟨F2, ds', R2.tb, R2.fh, d2, ?_⟩
        rw [e2]
        intro v H' F3 hH h3 h4 hk3 hv
        obtain ⟨R3, b3⟩ := R2.push_ret hH h3 h4 hk3 hv
        exact h1 v H' R3 b3
      · exact h1.elim
end

/-! ### a def -/
def conv (E : SEnv) : Ret → FR
  | .val d => .ok (.val d)
  | .own o => .ok (.own o)
  | .bor i => match E[i]? with
    | some (.val d) => .ok (.val d)
    | some (.own o) => .ok (.own o)
    | _ => .no
/-- np parameters, n names -/
def runDef (np n : Nat) (m : M Fl) (ds : List D) : FR := if ds.length = np then (match m (ds.map Slot.val ++ List.replicate (n - np) .un) with
  | .ok (.rt r) E => conv E r
  | .ok .nx _ => .ok (.val .none)
  | .ok _ _ => .no
  | .ex x _ => .ex x
  | .no => .no) else .no
theorem start_rel {K : PySem.W.Frag} {cl : Cl} {F0 H : Hp} {vs : List V} {ds : List D} {N : List Str} (ht : TOk cl.T F0 H) (hs : Same F0 H) (hd : DpAll K F0 vs ds) : RelF K cl ⟨noT cl.T H, F0, fun _ => none, fun _ => none⟩ F0 (fun _ => none) (ds.map Slot.val ++ List.replicate (N.length - vs.length) .un) [] (L2.start N vs) H where
  len := by unfold L2.start; simp [dps_len hd]
  f0 := L2.Same.refl F0
  fh := hs
  h0 := fun p o e _ => noT_sub p o e
  hf := fun _ _ _ => rfl
  tb := ht
  nt := fun p hp => if_pos hp
  sl := fun i v s e1 e2 => by
    unfold L2.start at e1
    rcases Nat.lt_or_ge i vs.length with hi | hi
    · rw [List.getElem?_append_left (by simpa using hi)] at e1
      rw [List.getElem?_append_left (by simpa [← dps_len hd] using hi)] at e2
      rw [List.getElem?_map] at e1 e2
      cases q : vs[i]? with
      | none => rw [q] at e1; cases e1
      | some w =>
        rw [q] at e1
        cases e1
        obtain ⟨d, q2, h⟩ := dps_getV hd q
        rw [q2] at e2
        cases e2
        exact ⟨w, rfl, h⟩
    · rw [List.getElem?_append_right (by simpa [← dps_len hd] using hi)] at e2
      have : s = .un := by
        obtain ⟨_, e3⟩ := List.getElem?_eq_some_iff.mp e2
        rw [List.getElem_replicate] at e3
        exact e3.symm
      subst this
      trivial
  ln := fun _ _ e => nomatch e
  tm := fun k v r e => by simp at e
theorem spM_len {K : PySem.W.Frag} {cl : Cl} {np n : Nat} {m : M Fl} {vs : List V} {H : Hp} {Q : VK} {E : XK} (h : spM K cl (runDef np n m) vs H Q E) : vs.length = np := by
  obtain ⟨F0, ds, _, _, hd, h⟩ := h
  rw [dps_len hd]
  by_cases e : ds.length = np
  · exact e
  · have : runDef np n m ds = .no := if_neg e
    rw [this] at h
    exact h.elim
section
variable {P : Program} {w : World} {K : PySem.W.Frag} {mg : Str → Option Value} {base : Heap} {cl : Cl}
theorem def_run {N ps : List Str} {m : M Fl} {vs : List V} {H : Hp} {Q : VK} {E : XK} {sc : Scope} (S : FnScope N ps sc) (h : spM K cl (runDef ps.length N.length m) vs H Q E) : tMS K cl (fun c d _ H => E c d H) m { nx := fun _ H' => Q .non H', rt := Q } (start N vs) H := by
  have hlen := spM_len h
  obtain ⟨F0, ds, ht, hs, hd, h⟩ := h
  have R := start_rel (cl := cl) (N := N) ht hs hd
  rw [hlen] at R
  refine ⟨_, _, [], R.rel, ?_⟩
  unfold runDef at h
  have hl2 : ds.length = ps.length := (dps_len hd).symm.trans hlen
  rw [if_pos hl2] at h
  cases q : m (ds.map Slot.val ++ List.replicate (N.length - ps.length) .un) with
  | no => rw [q] at h; exact h.elim
  | ex x E1 =>
    rw [q] at h
    intro d σ' H' R' hx
    obtain ⟨F', ρ', R'⟩ := R'
    exact h d H' ⟨fun p o e => R'.h0 p o e (fun _ z => nomatch z), R'.tb.1⟩ (hx.noT R'.tb.1)
  | ok fl E1 =>
    rw [q] at h
    have out : ∀ {F' : Hp} {ρ' : Own} {T' : List (V × Ret)} {σ' : St} {H' : Hp}, RelF K cl ⟨noT cl.T H, F0, fun _ => none, fun _ => none⟩ F' ρ' E1 T' σ' H' → Stp cl.T H H' ∧ Same F0 F' ∧ Same F' H' ∧ ∀ p o, H p = some o → F' p = F0 p := fun R' =>
      ⟨⟨fun p o e => R'.h0 p o e (fun _ z => (nomatch z)), R'.tb.1⟩, R'.f0, R'.fh, noT_hf ht.2 R'.tb.2 R'.hf⟩
    cases fl with
    | bk => exact h.elim
    | ct => exact h.elim
    | nx =>
      intro σ' H' ⟨F', ρ', R'⟩
      obtain ⟨a, b, c, d⟩ := out R'
      exact h .non H' F' a b c d .non
    | rt r =>
      intro v σ' H' ⟨F', ρ', R'⟩ bo
      obtain ⟨a, b, c, d⟩ := out R'
      cases r with
      | val x => exact h v H' F' a b c d (R'.tm 0 v (.val x) rfl)
      | own o =>
        obtain ⟨p, rfl, ⟨ho, h1, h2, h3, _⟩, h4⟩ := R'.tm 0 v (.own o) rfl
        exact h _ H' F' a b c d ⟨p, ho, rfl, noT_none R'.tb.1 h4 h1 (mrep_tbl h2), h1, h2, h3⟩
      | bor i =>
        unfold conv at h
        dsimp only at h
        have bo' : σ'[i]? = some (some v) := bo
        split at h
        · rename_i rv e2
          split at e2
          · rename_i x e3
            cases e2
            obtain ⟨y, z1, z2⟩ := R'.sl i _ _ bo' e3
            cases z1
            exact h v H' F' a b c d z2
          · rename_i o e3
            cases e2
            obtain ⟨p, z1, ⟨ho, h1, h2, h3, _⟩, h4⟩ := R'.sl i _ _ bo' e3
            cases z1
            exact h _ H' F' a b c d ⟨p, ho, rfl, noT_none R'.tb.1 h4 h1 (mrep_tbl h2), h1, h2, h3⟩
          · cases e2
        · rename_i x e2
          split at e2 <;> cases e2
        · exact h.elim
theorem den_def {x qual : Str} {st : Stmt} {f : Addr} {fd : FuncData} {N ps : List Str} {k : Nat} {m : M Fl} (F : Fun K x qual st f fd) (S : FnScope N ps (defScope st))
    (hbody : ∀ (cdv : Value) (A : Around) (outer : List Env) (s : Shared) (H : Hp) (E : XK), Room k (A.deeper (PyProof.Rows.envOfC qual (defScope st) s.heap.objs.size f cdv)) →
      PSs (cxOf (L2.CX P w) P w K mg base N qual (defScope st) f cdv A outer s H E) (defBody st) (tMS K cl (fun c d _ H => E c d H) m)) : FnOk P w K mg base (L2.CX P w) (k + 1) f fd ps (spM K cl (runDef ps.length N.length m)) := by
  refine F.okX S (fun vs H Q E h => spM_len h) (fun cdv A outer s H vs Q E hr h => ⟨_, hbody cdv A outer s H E hr, def_run S h⟩)
end
end MP

namespace MP
open PySem PySem.Spec L2

/-! ### arithmetic -/
def mulOk (i j : Int) : Prop := (-(2 ^ 64) < i ∧ i < 2 ^ 64) ∨ (-(2 ^ 64) < j ∧ j < 2 ^ 64) ∨ i.natAbs.log2 + j.natAbs.log2 < 1000000
instance (i j : Int) : Decidable (mulOk i j) := by unfold mulOk; exact inferInstance
def big : Nat := 1000000
noncomputable def addF : D → D → Option Rv
  | .int i, .int j => some (.val (.int (i + j)))
  | .str a, .str b => if Ok (a.length + b.length ≤ big) then some (.val (.str (a ++ b))) else none
  | .list xs, .list ys => if Ok (xs.length + ys.length ≤ big) then some (.own (.lst (xs ++ ys))) else none
  | _, _ => none
noncomputable def subF : D → D → Option Rv
  | .int i, .int j => some (.val (.int (i - j)))
  | _, _ => none
noncomputable def mulF : D → D → Option Rv
  | .int i, .int j => if Ok (mulOk i j) then some (.val (.int (i * j))) else none
  | _, _ => none
noncomputable def divF : D → D → Option Rv
  | .int i, .int j => if Ok (0 < j ∧ j.natAbs.log2 < 9000) then some (.val (.int (i / j))) else none
  | _, _ => none
noncomputable def modF : D → D → Option Rv
  | .int i, .int j => if Ok (0 < j) then some (.val (.int (i % j))) else none
  | _, _ => none
noncomputable def powF : D → D → Option Rv
  | .int i, .int j => if Ok (0 ≤ j ∧ j ≤ 1000000 ∧ i.natAbs < 2 ^ 64) then some (.val (.int (i ^ j.toNat))) else none
  | _, _ => none
def negF : D → Option Rv
  | .int i => some (.val (.int (-i)))
  | _ => none
theorem big_le {n : Nat} (h : n ≤ big) : n ≤ sizeLine := Nat.le_trans h (by rw [sizeLine_eq]; decide)
theorem big_lt {n : Nat} (h : n ≤ big) : n < sizeLine := Nat.lt_of_le_of_lt h (by rw [sizeLine_eq]; decide)
section
variable {K : PySem.W.Frag} {F H : Hp} {v : V} {Q : VK}
theorem dpt_int {i : Int} (h : DpT K F H v (.int i)) : v = .int i := by cases (show Dp K F v _ from h); rfl
theorem dpt_str {i : Str} (h : DpT K F H v (.str i)) : v = .str i := by cases (show Dp K F v _ from h); rfl
theorem dpt_bl {i : Bool} (h : DpT K F H v (.bool i)) : v = .bl i := by cases (show Dp K F v _ from h); rfl
theorem dpt_tup {ds : List D} (hs : Same F H) (h : DpT K F H v (.tuple ds)) : ∃ a xs, v = .ref a ∧ SqT K H a xs ∧ DpAll K F xs ds := by
  cases (show Dp K F v _ from h) with
  | tup h1 h2 => exact ⟨_, _, rfl, (h1.mono hs).sq, h2⟩
theorem dpt_lst {ds : List D} (hs : Same F H) (h : DpT K F H v (.list ds)) : ∃ a xs, v = .ref a ∧ SqL K H a xs ∧ DpAll K F xs ds := by
  obtain ⟨a, xs, rfl, h1, h2⟩ := h
  exact ⟨a, xs, rfl, sql_or hs h1, h2⟩
/-- an existing tuple -/
theorem dp_tup' {ds : List D} (h : DpT K F H v (.tuple ds)) : Dp K F v (.tuple ds) := h
end
section
variable {X : Cx}
/-- list + list, any that are read -/
theorem list_addG (l b : Addr) (items items2 : Array Value) (n n2 : Nat) (dd dd2 : Option Addr) (sl sl2 : Array (Option Value)) (hc0 : items.size + items2.size ≤ sizeLine) :
    Meets (Builtin.«list.__add__» ⟨[.ref l, .ref b], []⟩) (fun _ R s => s.heap.get? l = some { cls := .type "list", dict := dd, data := .seq items n, slots := sl } ∧ s.heap.get? b = some { cls := .type "list", dict := dd2, data := .seq items2 n2, slots := sl2 } ∧
      R (.ok (.ret (Value.ref s.heap.objs.size))) { s with heap := s.heap.push { cls := Value.type "list", data := Data.seq (items ++ items2) }, toks := s.toks }) :=
  .of_wp fun prog w A R s h => by
    obtain ⟨hp, g, d, tk, os⟩ := s
    obtain ⟨hl, hb, h⟩ := h
    have f1 := AutoSeq1.idx_int
    have f3 := AutoSeq1.sub_list_list
    wp_walk using AutoSeq1.wpAny_loadPart' hl, AutoSeq1.wpAny_loadPart' hb
    exact ⟨_, rfl, h⟩
def rCatG (K : PySem.W.Frag) : R2 := fun x y H Q => ∃ l b xs zs, x = .ref l ∧ y = .ref b ∧ SqL K H l xs ∧ SqL K H b zs ∧ xs.length + zs.length ≤ sizeLine ∧ ∀ p, H p = none → Q (.ref p) (upd H p (.lst (xs ++ zs)))
theorem op_catG : OpR X (binaryOp .Add) (rCatG X.K) := by
  intro pins s σ H x y v u Q I rx ry h
  obtain ⟨l, b, xs, zs, rfl, rfl, hl, hb, hz, q⟩ := h
  cases rx
  cases ry
  obtain ⟨its, r, ⟨⟨c1, d1, da1, sl1⟩, n, e, g1, g2, g3⟩, z⟩ := I.list hl
  obtain ⟨its2, r2, ⟨⟨c2, d2, da2, sl2⟩, n2, e2, k1, k2, k3⟩, z2⟩ := I.list hb
  simp only at g1 g2 g3 k1 k2 k3
  subst g1 g2 g3 k1 k2 k3
  refine concat_meets ⟨_, e, rfl⟩ ⟨_, e2, rfl⟩ noFill_list_add seq_list_add F.slot_list_add F.entry_list_add (F.args_list_add_2 _ _) (list_addG l b its.toArray its2.toArray n n2 none none sl1 sl2 (by rw [List.size_toArray, List.size_toArray, ← r.length, ← r2.length]; exact hz)) ⟨e, e2, ?_⟩
  have ea : its.toArray ++ its2.toArray = (its ++ its2).toArray := by simp
  rw [ea]
  exact ⟨.ref _, _, I.lnew (t' := s.toks) (r.append r2) (by rw [List.length_append]; exact hz), rfl, q _ I.fresh⟩
def rAddM (K : PySem.W.Frag) : R2 := fun x y H Q => (∃ i j, x = .int i ∧ y = .int j ∧ Q (.int (i + j)) H) ∨ (∃ i j, x = .str i ∧ y = .str j ∧ i.length + j.length ≤ sizeLine ∧ Q (.str (i ++ j)) H) ∨ rCatG K x y H Q ∨ rCatA K x y H Q
theorem op_addM : OpR X (binaryOp .Add) (rAddM X.K) := op_add.or (op_add_str.or (op_catG.or op_catA))
theorem addM_ok {K : PySem.W.Frag} : Op2 K (rAddM K) addF := fun F H x y a b rv Q hs ha hb e g => by
  unfold addF at e
  split at e
  · cases e; exact .inl ⟨_, _, dpt_int ha, dpt_int hb, g.int⟩
  · split at e
    · rename_i hl; cases e; exact .inr (.inl ⟨_, _, dpt_str ha, dpt_str hb, big_le hl, g.str⟩)
    · cases e
  · split at e
    · rename_i xs ys hl
      cases e
      obtain ⟨p, us, rfl, h1, h2⟩ := dpt_lst hs ha
      obtain ⟨q, ws, rfl, h3, h4⟩ := dpt_lst hs hb
      exact .inr (.inr (.inl ⟨p, q, us, ws, rfl, rfl, h1, h3, by rw [dps_len h2, dps_len h4]; exact big_le hl, fun z hz => g z _ hz ⟨_, rfl, dps_app h2 h4⟩⟩))
    · cases e
  · cases e
theorem sub_ok {K : PySem.W.Frag} : Op2 K (rI0 fun i j => .int (i - j)) subF := fun F H x y a b rv Q hs ha hb e g => by
  unfold subF at e
  split at e
  · cases e; exact ⟨_, _, dpt_int ha, dpt_int hb, g.int⟩
  · cases e
theorem flat_rep_len {α : Type} (xs : List α) : ∀ n : Nat, (List.replicate n xs).flatten.length = n * xs.length
  | 0 => by simp
  | n + 1 => by rw [List.replicate_succ, List.flatten_cons, List.length_append, flat_rep_len xs n, Nat.succ_mul, Nat.add_comm]
/-- tuple * 1 is the tuple -/
theorem tuple_mul1 (l : Addr) (items : Array Value) (n : Nat) (dd : Option Addr) (sl : Array (Option Value)) (u : Tok) :
    Meets (Builtin.«tuple.__mul__» ⟨[.ref l, .int 1 u], []⟩) (fun _ R s => s.heap.get? l = some { cls := .type "tuple", dict := dd, data := .seq items n, slots := sl } ∧ R (.ok (.ret (Value.ref l))) s) :=
  .of_wp fun prog w A R s h => by
    obtain ⟨hp, g, d, tk, os⟩ := s
    obtain ⟨hl, h⟩ := h
    have f1 := AutoSeq1.idx_int
    have f2 := AutoSeq1.sub_tuple_tuple
    have c1 : (items.isEmpty || ((1 : Int) == 1)) = true := by simp
    wp_walk using AutoSeq1.wpAny_loadPart' hl
    repeat (first
      | exact ⟨_, rfl, h⟩
      | (refine wpAny_ite_true (decide_eq_true c1) ?_; wp_walk using AutoSeq1.wpAny_loadPart' hl))
def rRepT1 (K : PySem.W.Frag) : R2 := fun x y H Q => ∃ l xs, x = .ref l ∧ y = .int 1 ∧ SqT K H l xs ∧ Q (.ref l) H
theorem op_repT1 : OpR X (binaryOp .Mult) (rRepT1 X.K) := by
  intro pins s σ H x y v u Q I rx ry h
  obtain ⟨l, xs, rfl, rfl, hT, q⟩ := h
  cases rx
  obtain ⟨t, rfl⟩ := ry
  obtain ⟨its, r, ⟨⟨cls, dd, data, sl⟩, ho, hc, n, hd⟩, hs⟩ := I.tuple hT
  simp only at hc hd
  subst hc hd
  refine wpAny_binaryOp_repeat_ref (T := "tuple") (U := "int") (by decide) ⟨_, ho, rfl⟩ (fun s' => typeIs_int s' 1 t) noFill_tuple_mul F.fills_int_mul F.slot_int_rmul repeat_tuple F.slot_int_index.lookup
    (call_meets F.slot_int_rmul (typeIs_int s 1 t) F.entry_int_rmul (F.args_int_rmul_2 _ _) (int_rmul_tuple 1 t l its.toArray n dd sl)
      ⟨ho, rfl, ⟨_, ho, rfl⟩, call_meets F.slot_tuple_mul ⟨_, ho, rfl⟩ F.entry_tuple_mul (F.args_tuple_mul_2 _ _) (tuple_mul1 l its.toArray n dd sl t) ⟨ho, ?_⟩⟩)
  exact ⟨.ref l, H, I, rfl, q⟩
def rMulM (K : PySem.W.Frag) : R2 := fun x y H Q => rI CMul (fun i j => .int (i * j)) x y H Q ∨ rI CMulW (fun i j => .int (i * j)) x y H Q ∨ rRep x y H Q ∨ rRepT K x y H Q ∨ rRepT1 K x y H Q
theorem op_mulM : OpR X (binaryOp .Mult) (rMulM X.K) := op_mul.or (op_mulW.or (op_rep.or (op_repT.or op_repT1)))
theorem div_ok {K : PySem.W.Frag} : Op2 K (rI CDivW fun i j => .int (i / j)) divF := fun F H x y a b rv Q hs ha hb e g => by
  unfold divF at e
  split at e
  · split at e
    · rename_i hl; cases e; exact ⟨_, _, dpt_int ha, dpt_int hb, hl, g.int⟩
    · cases e
  · cases e
theorem mod_ok {K : PySem.W.Frag} : Op2 K (rI (fun _ j => 0 < j) fun i j => .int (i % j)) modF := fun F H x y a b rv Q hs ha hb e g => by
  unfold modF at e
  split at e
  · split at e
    · rename_i hl; cases e; exact ⟨_, _, dpt_int ha, dpt_int hb, hl, g.int⟩
    · cases e
  · cases e
theorem pow_ok {K : PySem.W.Frag} : Op2 K (rI CPow fun i j => .int (i ^ j.toNat)) powF := fun F H x y a b rv Q hs ha hb e g => by
  unfold powF at e
  split at e
  · split at e
    · rename_i hl; cases e; exact ⟨_, _, dpt_int ha, dpt_int hb, hl, g.int⟩
    · cases e
  · cases e
theorem neg_ok {K : PySem.W.Frag} : Op1 K (rU fun i => .int (-i)) negF := fun F H x a rv Q hs ha e g => by
  unfold negF at e
  split at e
  · cases e; exact ⟨_, dpt_int ha, g.int⟩
  · cases e
/-- the tuples and numbers of * by data; a list wants to be one's own -/
theorem mul_ok {K : PySem.W.Frag} : Op2 K (fun x y H Q => rI CMul (fun i j => .int (i * j)) x y H Q ∨ rI CMulW (fun i j => .int (i * j)) x y H Q ∨ rRepT K x y H Q ∨ rRepT1 K x y H Q) mulF := fun F H x y a b rv Q hs ha hb e g => by
  unfold mulF at e
  split at e
  · split at e
    · rename_i hl
      cases e
      rcases hl with hl | hl | hl
      · exact .inl ⟨_, _, dpt_int ha, dpt_int hb, .inl hl, g.int⟩
      · exact .inl ⟨_, _, dpt_int ha, dpt_int hb, .inr hl, g.int⟩
      · exact .inr (.inl ⟨_, _, dpt_int ha, dpt_int hb, hl, g.int⟩)
    · cases e
  · cases e
end

/-- a * b, a list of one's own too -/
noncomputable def mMul (a b : M Ret) : M Ret := fun E => (a E).bind fun r1 E1 => (b E1).bind fun r2 E2 => match r1, dat E2 r2 with
  | .own (.lst xs), some (.int k) => if Ok (smallI k = true ∧ xs.length * k.toNat ≤ big) then .ok (.own (.lst (List.replicate k.toNat xs).flatten)) E2 else .no
  | _, _ => op2 mulF E2 r1 r2
section
variable {X : Cx} {cl : Cl} {W : WX} {a b : Expr} {pos : Pos} {ma mb : M Ret}
theorem den_mul (ha : PE X a (tM X.K cl W ma)) (hb : PE X b (tM X.K cl W mb)) : PE X (.BinOp a .Mult b pos) (tM X.K cl W (mMul ma mb)) := PE.imp (pe_op op_mulM ha hb) fun σ H Q h => by
  obtain ⟨C, E, T, R, h⟩ := h
  refine ⟨C, E, T, R, (Run.bind h).imp fun ra E1 h1 v1 H1 R1 b1 => ⟨C, E1, _, R1, (Run.bind h1).go fun rb E2 h2 v2 H2 R2 b2 => ?_⟩⟩
  obtain ⟨F, ρ, RF⟩ := R2
  have k1 : (T ++ [(v1, ra)] ++ [(v2, rb)])[T.length]? = some (v1, ra) := by simp
  have k2 : (T ++ [(v1, ra)] ++ [(v2, rb)])[T.length + 1]? = some (v2, rb) := by simp
  split at h2
  · rename_i xs k e2
    split at h2
    · rename_i hl
      have hv := dpt_int (RF.dat k2 b2 e2)
      obtain ⟨p, rfl, ⟨ho, hh, ⟨vs, rfl, hd⟩, _, _⟩, _⟩ := RF.tm _ _ _ k1
      have := smallI_of hl.1
      refine .inr (.inr (.inl ⟨p, k, vs, rfl, hv, hh, by omega, by omega, by rw [dps_len hd]; exact big_le hl.2, fun q hq => ?_⟩))
      exact gives (T' := [(V.ref p, Ret.own (.lst xs)), (v2, rb)]) (rv := .own (.lst (List.replicate k.toNat xs).flatten)) (by simpa using RF) h2 q _ hq ⟨_, rfl, dps_rep hd _⟩
    · exact h2.elim
  · obtain ⟨a, b, rv, e1, e2, e3, p⟩ := op2_run h2
    rcases mul_ok F H2 v1 v2 a b rv Q RF.fh (RF.dat k1 b1 e1) (RF.dat k2 b2 e2) e3 (gives (T' := [(v1, _), (v2, rb)]) (by simpa using RF) p) with h | h | h | h
    · exact .inl h
    · exact .inr (.inl h)
    · exact .inr (.inr (.inr (.inl h)))
    · exact .inr (.inr (.inr (.inr h)))
theorem den_add (ha : PE X a (tM X.K cl W ma)) (hb : PE X b (tM X.K cl W mb)) : PE X (.BinOp a .Add b pos) (tM X.K cl W (m2 addF ma mb)) := den_bin op_addM addM_ok ha hb
theorem den_sub (ha : PE X a (tM X.K cl W ma)) (hb : PE X b (tM X.K cl W mb)) : PE X (.BinOp a .Sub b pos) (tM X.K cl W (m2 subF ma mb)) := den_bin op_sub sub_ok ha hb
theorem den_div (ha : PE X a (tM X.K cl W ma)) (hb : PE X b (tM X.K cl W mb)) : PE X (.BinOp a .FloorDiv b pos) (tM X.K cl W (m2 divF ma mb)) := den_bin op_fdivW div_ok ha hb
theorem den_mod (ha : PE X a (tM X.K cl W ma)) (hb : PE X b (tM X.K cl W mb)) : PE X (.BinOp a .Mod b pos) (tM X.K cl W (m2 modF ma mb)) := den_bin op_mod mod_ok ha hb
theorem den_pow (ha : PE X a (tM X.K cl W ma)) (hb : PE X b (tM X.K cl W mb)) : PE X (.BinOp a .Pow b pos) (tM X.K cl W (m2 powF ma mb)) := den_bin op_pow pow_ok ha hb
theorem den_neg (ha : PE X a (tM X.K cl W ma)) : PE X (.UnaryOp .USub a pos) (tM X.K cl W (m1 negF ma)) := den_un un_neg neg_ok ha
end

/-! ### comparisons -/
noncomputable def eqF : D → D → Option Rv
  | .int i, .int j => some (.val (.bool (decide (i = j))))
  | .bool i, .bool j => some (.val (.bool (decide (i = j))))
  | .str i, .str j => some (.val (.bool (decide (i = j))))
  | .none, .none => some (.val (.bool true))
  | a, b => if Ok (SeqAt.shaped a = true ∧ SeqAt.shaped b = true) then some (.val (.bool (PyData.eqv a b))) else none
noncomputable def neF : D → D → Option Rv
  | .int i, .int j => some (.val (.bool (!decide (i = j))))
  | .bool i, .bool j => some (.val (.bool (!decide (i = j))))
  | .str i, .str j => some (.val (.bool (!decide (i = j))))
  | .none, .none => some (.val (.bool false))
  | a, b => if Ok (SeqAt.shaped a = true ∧ SeqAt.shaped b = true) then some (.val (.bool (!PyData.eqv a b))) else none
def ltF : D → D → Option Rv
  | .int i, .int j => some (.val (.bool (decide (i < j))))
  | _, _ => none
def leF : D → D → Option Rv
  | .int i, .int j => some (.val (.bool (decide (i ≤ j))))
  | _, _ => none
def gtF : D → D → Option Rv
  | .int i, .int j => some (.val (.bool (decide (j < i))))
  | _, _ => none
def geF : D → D → Option Rv
  | .int i, .int j => some (.val (.bool (decide (j ≤ i))))
  | _, _ => none
def rEqM (K : PySem.W.Frag) : R2 := fun x y H Q => rEq x y H Q ∨ rEqD K x y H Q
def rNeM (K : PySem.W.Frag) : R2 := fun x y H Q => rNe x y H Q ∨ rNeD K x y H Q
section
variable {K : PySem.W.Frag}
theorem eq_ok : Op2 K (rEqM K) eqF := fun F H x y a b rv Q hs ha hb e g => by
  unfold eqF at e
  split at e
  · cases e; rw [dpt_int ha, dpt_int hb]; exact .inl ⟨rfl, by simpa using g.bool⟩
  · cases e; rw [dpt_bl ha, dpt_bl hb]; exact .inl ⟨rfl, by simpa using g.bool⟩
  · cases e; rw [dpt_str ha, dpt_str hb]; exact .inl ⟨rfl, by simpa using g.bool⟩
  · cases e; cases (show Dp K F x _ from ha); cases (show Dp K F y _ from hb); exact .inl ⟨rfl, by simpa using g.bool⟩
  · split at e
    · rename_i hl
      cases e
      exact .inr ⟨_, _, (dp_of ha hs).low, (dp_of hb hs).low, hl.1, hl.2, g.bool⟩
    · cases e
theorem ne_ok : Op2 K (rNeM K) neF := fun F H x y a b rv Q hs ha hb e g => by
  unfold neF at e
  split at e
  · cases e; rw [dpt_int ha, dpt_int hb]; exact .inl ⟨rfl, by simpa using g.bool⟩
  · cases e; rw [dpt_bl ha, dpt_bl hb]; exact .inl ⟨rfl, by simpa using g.bool⟩
  · cases e; rw [dpt_str ha, dpt_str hb]; exact .inl ⟨rfl, by simpa using g.bool⟩
  · cases e; cases (show Dp K F x _ from ha); cases (show Dp K F y _ from hb); exact .inl ⟨rfl, by simpa using g.bool⟩
  · split at e
    · rename_i hl
      cases e
      exact .inr ⟨_, _, (dp_of ha hs).low, (dp_of hb hs).low, hl.1, hl.2, g.bool⟩
    · cases e
theorem lt_ok : Op2 K (rI0 fun i j => .bl (decide (i < j))) ltF := fun F H x y a b rv Q hs ha hb e g => by
  unfold ltF at e
  split at e
  · cases e; exact ⟨_, _, dpt_int ha, dpt_int hb, g.bool⟩
  · cases e
theorem le_ok : Op2 K (rI0 fun i j => .bl (decide (i ≤ j))) leF := fun F H x y a b rv Q hs ha hb e g => by
  unfold leF at e
  split at e
  · cases e; exact ⟨_, _, dpt_int ha, dpt_int hb, g.bool⟩
  · cases e
theorem gt_ok : Op2 K (rI0 fun i j => .bl (decide (j < i))) gtF := fun F H x y a b rv Q hs ha hb e g => by
  unfold gtF at e
  split at e
  · cases e; exact ⟨_, _, dpt_int ha, dpt_int hb, g.bool⟩
  · cases e
theorem ge_ok : Op2 K (rI0 fun i j => .bl (decide (j ≤ i))) geF := fun F H x y a b rv Q hs ha hb e g => by
  unfold geF at e
  split at e
  · cases e; exact ⟨_, _, dpt_int ha, dpt_int hb, g.bool⟩
  · cases e
theorem op_eqM {X : Cx} (hu : X.A.units + 64 < cLine) : OpR X (compareOp .Eq) (rEqM X.K) := op_eq.or (op_eqD hu)
theorem op_neM {X : Cx} (hu : X.A.units + 64 < cLine) : OpR X (compareOp .NotEq) (rNeM X.K) := op_ne.or (op_neD hu)
end
/-- flat data, as `in` compares them -/
def flatD : D → Bool
  | .none => true
  | .bool _ => true
  | .int _ => true
  | .str _ => true
  | _ => false
def eqD : D → D → Bool
  | .none, .none => true
  | .bool a, .bool b => a == b
  | .bool a, .int b => (if a then 1 else 0) == b
  | .int a, .bool b => a == (if b then 1 else 0)
  | .int a, .int b => a == b
  | .str a, .str b => a == b
  | _, _ => false
def memD (x : D) (ds : List D) : Bool := ds.any fun y => eqD y x
noncomputable def inF : D → D → Option Rv
  | x, .list ds => if Ok (flatD x = true ∧ ds.all flatD = true) then some (.val (.bool (memD x ds))) else none
  | x, .tuple ds => if Ok (flatD x = true ∧ ds.all flatD = true) then some (.val (.bool (memD x ds))) else none
  | .str x, .str y => some (.val (.bool (!(Builtin.Str.occurrences y x 0 y.length 1).isEmpty)))
  | _, _ => none
noncomputable def ninF : D → D → Option Rv
  | x, .list ds => if Ok (flatD x = true ∧ ds.all flatD = true) then some (.val (.bool (!memD x ds))) else none
  | x, .tuple ds => if Ok (flatD x = true ∧ ds.all flatD = true) then some (.val (.bool (!memD x ds))) else none
  | .str x, .str y => some (.val (.bool (!(!(Builtin.Str.occurrences y x 0 y.length 1).isEmpty))))
  | _, _ => none
section
variable {K : PySem.W.Frag} {F H : Hp}
theorem flat_dp {v : V} {d : D} (h : Dp K F v d) (f : flatD d = true) : flatV v = true := by cases h <;> first | rfl | exact absurd f Bool.false_ne_true
theorem eq_dp {v w : V} {d e : D} (h : Dp K F v d) (h' : Dp K F w e) (f : flatD d = true) (f' : flatD e = true) : eqV v w = eqD d e := by
  cases h <;> first | exact absurd f Bool.false_ne_true | (cases h' <;> first | rfl | exact absurd f' Bool.false_ne_true)
theorem flat_dps : ∀ {vs : List V} {ds : List D}, DpAll K F vs ds → ds.all flatD = true → vs.all flatV = true
  | _, _, .nil, _ => rfl
  | _, d :: ds, .cons h hs, f => by
    have f' : flatD d = true ∧ ds.all flatD = true := by simpa using f
    rw [List.all_cons, flat_dp h f'.1, flat_dps hs f'.2]; rfl
theorem mem_dps {x : V} {d : D} (h : Dp K F x d) (fd : flatD d = true) : ∀ {vs : List V} {ds : List D}, DpAll K F vs ds → ds.all flatD = true → inV x vs = memD d ds
  | _, _, .nil, _ => rfl
  | _, e :: ds, .cons h' hs, f => by
    have f' : flatD e = true ∧ ds.all flatD = true := by simpa using f
    have ih := mem_dps h fd hs f'.2
    unfold inV memD at ih ⊢
    rw [List.any_cons, List.any_cons, eq_dp h' h f'.1 fd, ih]
theorem flat_dpt {v : V} {d : D} (h : DpT K F H v d) (f : flatD d = true) : Dp K F v d := by cases d <;> first | exact h | cases f
def rInM (K : PySem.W.Frag) (neg : Bool) : R2 := fun x y H Q => rIn K neg x y H Q ∨ (∃ i j, x = .str i ∧ y = .str j ∧ Q (.bl (if neg then !(!(Builtin.Str.occurrences j i 0 j.length 1).isEmpty) else !(Builtin.Str.occurrences j i 0 j.length 1).isEmpty)) H)
theorem op_inM {X : Cx} : OpR X (compareOp .In) (rInM X.K false) := op_in_seq.or op_in_str
theorem op_ninM {X : Cx} : OpR X (compareOp .NotIn) (rInM X.K true) := op_notIn_seq.or op_notIn_str
theorem in_ok : Op2 K (rInM K false) inF := fun F H x y a b rv Q hs ha hb e g => by
  unfold inF at e
  split at e
  · split at e
    · rename_i hl
      cases e
      obtain ⟨p, us, rfl, h1, h2⟩ := dpt_lst hs hb
      have hx := flat_dpt ha hl.1
      exact .inl ⟨p, us, rfl, .inl h1, flat_dp hx hl.1, flat_dps h2 hl.2, by rw [mem_dps hx hl.1 h2 hl.2]; exact g.bool⟩
    · cases e
  · split at e
    · rename_i hl
      cases e
      obtain ⟨p, us, rfl, h1, h2⟩ := dpt_tup hs hb
      have hx := flat_dpt ha hl.1
      exact .inl ⟨p, us, rfl, .inr h1, flat_dp hx hl.1, flat_dps h2 hl.2, by rw [mem_dps hx hl.1 h2 hl.2]; exact g.bool⟩
    · cases e
  · cases e; exact .inr ⟨_, _, dpt_str ha, dpt_str hb, g.bool⟩
  · cases e
theorem nin_ok : Op2 K (rInM K true) ninF := fun F H x y a b rv Q hs ha hb e g => by
  unfold ninF at e
  split at e
  · split at e
    · rename_i hl
      cases e
      obtain ⟨p, us, rfl, h1, h2⟩ := dpt_lst hs hb
      have hx := flat_dpt ha hl.1
      exact .inl ⟨p, us, rfl, .inl h1, flat_dp hx hl.1, flat_dps h2 hl.2, by rw [mem_dps hx hl.1 h2 hl.2]; exact g.bool⟩
    · cases e
  · split at e
    · rename_i hl
      cases e
      obtain ⟨p, us, rfl, h1, h2⟩ := dpt_tup hs hb
      have hx := flat_dpt ha hl.1
      exact .inl ⟨p, us, rfl, .inr h1, flat_dp hx hl.1, flat_dps h2 hl.2, by rw [mem_dps hx hl.1 h2 hl.2]; exact g.bool⟩
    · cases e
  · cases e; exact .inr ⟨_, _, dpt_str ha, dpt_str hb, g.bool⟩
  · cases e
end

/-! ### subscripts -/
noncomputable def ixF : D → D → Option Rv
  | .list ds, .int i => (atI ds i).map Rv.val
  | .tuple ds, .int i => (atI ds i).map Rv.val
  | .str z, .int i => if Ok (z.length ≤ big) then (atI z.cps.toList i).map fun c => Rv.val (.str ⟨#[c]⟩) else none
  | _, _ => none
theorem atI_dps {K : PySem.W.Frag} {F : Hp} {vs : List V} {ds : List D} {i : Int} {d : D} (h : DpAll K F vs ds) (e : atI ds i = some d) : ∃ v, atI vs i = some v ∧ Dp K F v d := by
  unfold atI at e ⊢
  rw [dps_len h]
  obtain ⟨j, h1, h2⟩ := Option.bind_eq_some_iff.mp e
  obtain ⟨v, h3, h4⟩ := dps_get h h2
  exact ⟨v, Option.bind_eq_some_iff.mpr ⟨j, h1, h3⟩, h4⟩
theorem ix_ok {K : PySem.W.Frag} : Op2 K (rIx K) ixF := fun F H x y a b rv Q hs ha hb e g => by
  unfold ixF at e
  split at e
  · obtain ⟨d, e1, rfl⟩ := Option.map_eq_some_iff.mp e
    obtain ⟨p, us, rfl, h1, h2⟩ := dpt_lst hs ha
    obtain ⟨v, h3, h4⟩ := atI_dps h2 e1
    exact .inl ⟨p, us, _, v, rfl, dpt_int hb, h1, h3, g.1 v h4⟩
  · obtain ⟨d, e1, rfl⟩ := Option.map_eq_some_iff.mp e
    obtain ⟨p, us, rfl, h1, h2⟩ := dpt_tup hs ha
    obtain ⟨v, h3, h4⟩ := atI_dps h2 e1
    exact .inr (.inl ⟨p, us, _, v, rfl, dpt_int hb, h1, h3, g.1 v h4⟩)
  · split at e
    · rename_i hl
      obtain ⟨c, e1, rfl⟩ := Option.map_eq_some_iff.mp e
      exact .inr (.inr ⟨_, _, c, dpt_str ha, dpt_int hb, big_le hl, e1, g.str⟩)
    · cases e
  · cases e
section
variable {X : Cx} {cl : Cl} {W : WX} {a b : Expr} {pos : Pos} {ma mb : M Ret}
theorem den_item (ha : PE X a (tM X.K cl W ma)) (hb : PE X b (tM X.K cl W mb)) (hs : PlainIx b := by exact fun _ _ => rfl) : PE X (.Subscript a b pos) (tM X.K cl W (m2 ixF ma mb)) := den_ix ix_seq ix_ok ha hb hs
end

/-! ### lists of numbers, of truths -/
def intsOf : List D → Option (List Int)
  | [] => some []
  | .int i :: ds => (intsOf ds).map (i :: ·)
  | _ :: _ => none
def blsOf : List D → Option (List Bool)
  | [] => some []
  | .bool i :: ds => (blsOf ds).map (i :: ·)
  | _ :: _ => none
theorem intsOf_eq : ∀ {ds : List D} {is : List Int}, intsOf ds = some is → ds = is.map PyData.int
  | [], is, h => by cases h; rfl
  | .int i :: ds, is, h => by
    obtain ⟨js, h1, rfl⟩ := Option.map_eq_some_iff.mp h
    rw [intsOf_eq h1]; rfl
  | .none :: _, _, h => by cases h
  | .bool _ :: _, _, h => by cases h
  | .str _ :: _, _, h => by cases h
  | .list _ :: _, _, h => by cases h
  | .tuple _ :: _, _, h => by cases h
  | .dict _ :: _, _, h => by cases h
@[simp] theorem intsOf_map : ∀ is : List Int, intsOf (is.map PyData.int) = some is
  | [] => rfl
  | i :: is => by show (intsOf (is.map PyData.int)).map (i :: ·) = _; rw [intsOf_map is]; rfl
theorem blsOf_eq : ∀ {ds : List D} {is : List Bool}, blsOf ds = some is → ds = is.map PyData.bool
  | [], is, h => by cases h; rfl
  | .bool i :: ds, is, h => by
    obtain ⟨js, h1, rfl⟩ := Option.map_eq_some_iff.mp h
    rw [blsOf_eq h1]; rfl
  | .none :: _, _, h => by cases h
  | .int _ :: _, _, h => by cases h
  | .str _ :: _, _, h => by cases h
  | .list _ :: _, _, h => by cases h
  | .tuple _ :: _, _, h => by cases h
  | .dict _ :: _, _, h => by cases h
@[simp] theorem blsOf_map : ∀ is : List Bool, blsOf (is.map PyData.bool) = some is
  | [] => rfl
  | i :: is => by show (blsOf (is.map PyData.bool)).map (i :: ·) = _; rw [blsOf_map is]; rfl
/-- the least, the greatest of a list that isn't empty -/
def minI : List Int → Int
  | [] => 0
  | [i] => i
  | i :: is => if minI is < i then minI is else i
def maxI : List Int → Int
  | [] => 0
  | [i] => i
  | i :: is => if i < maxI is then maxI is else i
theorem minI_spec : ∀ is : List Int, is ≠ [] → minI is ∈ is ∧ ∀ y ∈ is, minI is ≤ y
  | [], h => absurd rfl h
  | [i], _ => by simp [minI]
  | i :: j :: is, _ => by
    obtain ⟨h1, h2⟩ := minI_spec (j :: is) (by simp)
    unfold minI
    split
    · rename_i h
      refine ⟨List.mem_cons_of_mem _ h1, fun y hy => ?_⟩
      rcases List.mem_cons.mp hy with rfl | hy
      · omega
      · exact h2 y hy
    · rename_i h
      refine ⟨List.mem_cons_self, fun y hy => ?_⟩
      rcases List.mem_cons.mp hy with rfl | hy
      · omega
      · have := h2 y hy; omega
theorem maxI_spec : ∀ is : List Int, is ≠ [] → maxI is ∈ is ∧ ∀ y ∈ is, y ≤ maxI is
  | [], h => absurd rfl h
  | [i], _ => by simp [maxI]
  | i :: j :: is, _ => by
    obtain ⟨h1, h2⟩ := maxI_spec (j :: is) (by simp)
    unfold maxI
    split
    · rename_i h
      refine ⟨List.mem_cons_of_mem _ h1, fun y hy => ?_⟩
      rcases List.mem_cons.mp hy with rfl | hy
      · omega
      · exact h2 y hy
    · rename_i h
      refine ⟨List.mem_cons_self, fun y hy => ?_⟩
      rcases List.mem_cons.mp hy with rfl | hy
      · omega
      · have := h2 y hy; omega
theorem minI_eq {is : List Int} {m : Int} (h : m ∈ is) (h2 : ∀ y ∈ is, m ≤ y) : m = minI is := by
  have hne : is ≠ [] := fun e => by rw [e] at h; cases h
  obtain ⟨h3, h4⟩ := minI_spec is hne
  have := h2 _ h3
  have := h4 _ h
  omega
theorem maxI_eq {is : List Int} {m : Int} (h : m ∈ is) (h2 : ∀ y ∈ is, y ≤ m) : m = maxI is := by
  have hne : is ≠ [] := fun e => by rw [e] at h; cases h
  obtain ⟨h3, h4⟩ := maxI_spec is hne
  have := h2 _ h3
  have := h4 _ h
  omega
/-- the numbers, rising -/
def sortI (is : List Int) : List Int := is.mergeSort (fun a b => decide (a ≤ b))
theorem sortI_spec (is : List Int) : (sortI is).Perm is ∧ (sortI is).Pairwise (· ≤ ·) := by
  refine ⟨List.mergeSort_perm _ _, ?_⟩
  have h := List.pairwise_mergeSort (le := fun a b : Int => decide (a ≤ b)) (fun a b c h1 h2 => by simp at h1 h2 ⊢; omega) (fun a b => by simp; omega) is
  exact h.imp fun h => by simpa using h
theorem sortI_eq {is js : List Int} (h : js.Perm is) (h2 : js.Pairwise (· ≤ ·)) : js = sortI is :=
  PySem.W.ksm_same (h.trans (sortI_spec is).1.symm) h2 (sortI_spec is).2
end MP

namespace MP
open PySem PySem.Spec L2

/-! ### calls of the builtins -/
section
variable {K : PySem.W.Frag} {F H : Hp}
theorem dpts1 {vs : List V} {d : D} (h : DpTs K F H vs [d]) : ∃ v, vs = [v] ∧ DpT K F H v d := by
  cases h with
  | cons a b => cases b; exact ⟨_, rfl, a⟩
theorem dpts2 {vs : List V} {d e : D} (h : DpTs K F H vs [d, e]) : ∃ v w, vs = [v, w] ∧ DpT K F H v d ∧ DpT K F H w e := by
  cases h with
  | cons a b =>
    cases b with
    | cons a' b' => cases b'; exact ⟨_, _, rfl, a, a'⟩
end
noncomputable def lenF : List D → Option Rv
  | [.str y] => if Ok (y.length ≤ big) then some (.val (.int y.length)) else none
  | [.list ds] => some (.val (.int ds.length))
  | [.tuple ds] => some (.val (.int ds.length))
  | _ => none
theorem len_ok {K : PySem.W.Frag} : OpN K (fun xs H Q => ∃ x n, xs = [x] ∧ LenV K x H n ∧ Q (.int n) H) lenF := fun F H xs as rv Q hs hd e g => by
  unfold lenF at e
  split at e
  · rename_i y
    split at e
    · rename_i hl
      cases e
      obtain ⟨v, rfl, h⟩ := dpts1 hd
      exact ⟨v, y.length, rfl, by rw [dpt_str h]; exact ⟨big_le hl, rfl⟩, g.int⟩
    · cases e
  · rename_i ds
    cases e
    obtain ⟨v, rfl, h⟩ := dpts1 hd
    obtain ⟨a, us, rfl, h1, h2⟩ := dpt_lst hs h
    exact ⟨_, ds.length, rfl, .inl ⟨us, h1, (dps_len h2).symm⟩, g.int⟩
  · rename_i ds
    cases e
    obtain ⟨v, rfl, h⟩ := dpts1 hd
    obtain ⟨a, us, rfl, h1, h2⟩ := dpt_tup hs h
    exact ⟨_, ds.length, rfl, .inr ⟨us, h1, (dps_len h2).symm⟩, g.int⟩
  · cases e
def listF : List D → Option Rv
  | [.list ds] => some (.own (.lst ds))
  | [.tuple ds] => some (.own (.lst ds))
  | _ => none
theorem list_ok {K : PySem.W.Frag} : OpN K (fun xs H Q => ∃ p ys, xs = [.ref p] ∧ (SqL K H p ys ∨ SqT K H p ys) ∧ ∀ l, H l = none → Q (.ref l) (upd H l (.lst ys))) listF := fun F H xs as rv Q hs hd e g => by
  unfold listF at e
  split at e
  · cases e
    obtain ⟨v, rfl, h⟩ := dpts1 hd
    obtain ⟨a, us, rfl, h1, h2⟩ := dpt_lst hs h
    exact ⟨a, us, rfl, .inl h1, fun l hl => g l _ hl ⟨us, rfl, h2⟩⟩
  · cases e
    obtain ⟨v, rfl, h⟩ := dpts1 hd
    obtain ⟨a, us, rfl, h1, h2⟩ := dpt_tup hs h
    exact ⟨a, us, rfl, .inr h1, fun l hl => g l _ hl ⟨us, rfl, h2⟩⟩
  · cases e
def tupleF : List D → Option Rv
  | [.list ds] => some (.val (.tuple ds))
  | [.tuple ds] => some (.val (.tuple ds))
  | _ => none
/-- tuple(xs), the new tuple known to the object -/
theorem call_tuple_N {X : Cx} : CallR X (.type "tuple") (fun xs H Q => ∃ p ys, xs = [.ref p] ∧ ((SqL X.K H p ys ∧ ∀ l (ob : Obj), ob.dict = none → H l = none → Q (.ref l) (upd H l (.frz ob (.tup ys)))) ∨ (SqT X.K H p ys ∧ Q (.ref p) H))) := by
  intro pins s σ H xs us Q I r h
  obtain ⟨p, ys, rfl, h⟩ := h
  obtain ⟨u, rfl, rx⟩ := vals1 r
  cases rx
  rcases h with ⟨hq, q⟩ | ⟨hq, q⟩
  · obtain ⟨its, r', pl, hz⟩ := I.list hq
    have hlen := r'.length
    refine call_tuple_list pl.isList (fun h' kp => ?_) (by simp only [List.size_toArray] <;> omega)
    have I1 : Inv X pins σ H { s with heap := h' } := I.kept (t' := s.toks) kp
    have I2 : Inv X pins σ (upd H h'.objs.size (.frz { cls := .type "tuple", data := .seq its.toArray } (.tup ys))) { s with heap := h'.push { cls := .type "tuple", data := .seq its.toArray } } :=
      I1.laid (t' := s.toks) (fun b o e => Heap.get?_push_of_some _ e) (Nat.le_refl _) (show ObjOk X.prog X.w _ _ _ (.frz { cls := .type "tuple", data := .seq its.toArray } (.tup ys)) from ⟨Heap.get?_push_size _ rfl, hz, its, r', PyProof.Rows.IsTup.new _ _⟩)
    exact ⟨.ref h'.objs.size, _, I2, rfl, q _ _ rfl (I1.hok.fresh (Nat.le_refl _))⟩
  · obtain ⟨its, r', pl, hz⟩ := I.tuple hq
    exact call_tuple_same pl ⟨.ref p, H, I, rfl, q⟩
theorem tuple_ok {K : PySem.W.Frag} : OpN K (fun xs H Q => ∃ p ys, xs = [.ref p] ∧ ((SqL K H p ys ∧ ∀ l (ob : Obj), ob.dict = none → H l = none → Q (.ref l) (upd H l (.frz ob (.tup ys)))) ∨ (SqT K H p ys ∧ Q (.ref p) H))) tupleF := fun F H xs as rv Q hs hd e g => by
  unfold tupleF at e
  split at e
  · cases e
    obtain ⟨v, rfl, h⟩ := dpts1 hd
    obtain ⟨a, us, rfl, h1, h2⟩ := dpt_lst hs h
    exact ⟨a, us, rfl, .inl ⟨h1, fun l ob nob hl => g.2 _ l us ob nob rfl hl h2⟩⟩
  · cases e
    obtain ⟨v, rfl, h⟩ := dpts1 hd
    have h' := dp_tup' h
    obtain ⟨a, us, rfl, h1, h2⟩ := dpt_tup hs h
    exact ⟨a, us, rfl, .inr ⟨h1, g.1 _ h'⟩⟩
  · cases e
def absF : List D → Option Rv
  | [.int i] => some (.val (.int (if i < 0 then -i else i)))
  | _ => none
theorem abs_ok {K : PySem.W.Frag} : OpN K (fun xs H Q => ∃ i, xs = [.int i] ∧ Q (.int (if i < 0 then -i else i)) H) absF := fun F H xs as rv Q hs hd e g => by
  unfold absF at e
  split at e
  · cases e
    obtain ⟨v, rfl, h⟩ := dpts1 hd
    exact ⟨_, by rw [dpt_int h], g.int⟩
  · cases e
def intF : List D → Option Rv
  | [.int i] => some (.val (.int i))
  | [.bool k] => some (.val (.int (if k then 1 else 0)))
  | _ => none
theorem int_ok {K : PySem.W.Frag} : OpN K (fun xs H Q => (∃ i, xs = [.int i] ∧ Q (.int i) H) ∨ ∃ k, xs = [.bl k] ∧ Q (.int (if k then 1 else 0)) H) intF := fun F H xs as rv Q hs hd e g => by
  unfold intF at e
  split at e
  · cases e
    obtain ⟨v, rfl, h⟩ := dpts1 hd
    exact .inl ⟨_, by rw [dpt_int h], g.int⟩
  · cases e
    obtain ⟨v, rfl, h⟩ := dpts1 hd
    exact .inr ⟨_, by rw [dpt_bl h], g.int⟩
  · cases e
noncomputable def strF : List D → Option Rv
  | [.int i] => if Ok (i.natAbs.log2 < 1920) then some (.val (.str (toString i))) else none
  | _ => none
theorem str_ok {K : PySem.W.Frag} : OpN K (fun xs H Q => ∃ i, xs = [.int i] ∧ i.natAbs.log2 < 1920 ∧ Q (.str (toString i)) H) strF := fun F H xs as rv Q hs hd e g => by
  unfold strF at e
  split at e
  · split at e
    · rename_i hl
      cases e
      obtain ⟨v, rfl, h⟩ := dpts1 hd
      exact ⟨_, by rw [dpt_int h], hl, g.str⟩
    · cases e
  · cases e

/-! ### tuples, too -/
section
open PyProof.Rows
variable {prog : Program} {w : World} {A : Around} {E : Value → Shared → Prop} {s : Shared} {l : Addr} {its : List Value} {ns : List Int} {Q : Value → Shared → Prop}
theorem iter_tupI {items : Array Value} (hl : s.heap.IsTuple l items)
    (h : ∀ s₂ : Shared, s₂ = { s with heap := s.heap.push { cls := .type "tuple_iterator", data := .fields #[.ref l, .int 0 0] } } →
      (s₂.heap.IsTupleIter s.heap.objs.size l 0 ∧ s₂.heap.IsTuple l items) → (∀ b ∈ [s.heap.objs.size, l], b < s₂.heap.objs.size) → l ≠ s.heap.objs.size → Q (.ref s.heap.objs.size) s₂) :
    wpAny (model prog w) A (pyIter (.ref l)) Q E s := by
  have hlt : l < s.heap.objs.size := by obtain ⟨_, e, _⟩ := hl; exact Heap.lt_size e
  refine wpAny_pyIter_tuple hl (h _ rfl ⟨⟨_, Heap.get?_push_size _ rfl, rfl, rfl⟩, hl.push _⟩ (fun b hb => ?_) (Nat.ne_of_lt hlt))
  show b < (s.heap.push _).objs.size
  rw [Heap.size_push]
  rcases List.mem_cons.mp hb with rfl | hb
  · exact Nat.lt_succ_self _
  · rcases List.mem_cons.mp hb with rfl | hb
    · exact Nat.lt_succ_of_lt hlt
    · cases hb
theorem old_keptT {o : Obj} {h' : Heap} (hk : ∀ b o', b ∉ [s.heap.objs.size] → (s.heap.push o).get? b = some o' → h'.get? b = some o') :
    ∀ b o, s.heap.get? b = some o → h'.get? b = some o := fun b o e => by
  refine hk b o (fun hm => ?_) (Heap.get?_push_of_some _ e)
  rcases List.mem_cons.mp hm with e1 | hm
  · exact absurd (e1 ▸ Heap.lt_size e) (Nat.lt_irrefl _)
  · cases hm
theorem max_rawT (hh : A.handled = none) (hl : s.heap.IsTuple l its.toArray) (hi : IntsAre its ns) (hne : 0 < ns.length)
    (h : ∀ h' tk M t', (∀ b o, s.heap.get? b = some o → h'.get? b = some o) → M ∈ ns → (∀ a, a ∈ ns → a ≤ M) → Q (.int M t') { s with heap := h', toks := tk }) : wpAny (model prog w) A (call (.builtin "max") [.ref l]) Q E s := by
  obtain ⟨xs, e⟩ := hi.allInts.items
  have hn : numsOf (intItems xs).toList = ns := by rw [← e]; exact hi.numsOf
  rw [nums_intItems] at hn
  subst hn
  rw [e] at hl
  have hsz : 0 < xs.size := by simpa using hne
  refine call_max_walk (iter_tupI hl fun s₂ e st hfp hlI => ?_)
  subst e
  refine ⟨_, _, _, _, _, _, _, rfl, Walks.tuple (A := A.in1) hh _ l hlI (intItems xs), st, hfp, by simpa [intItems] using hsz, CmpOf.ints_gt (numAt xs) (fun _ _ => intItems_at), fun v h' tk hP hk => ?_⟩
  have hv : (intItems xs)[argBest (fun i j => decide (numAt xs i > numAt xs j)) (xs.size - 1)]? = some v := by simpa [intItems] using hP
  obtain ⟨t, rfl⟩ := intItems_at hv
  obtain ⟨h1, h2⟩ := argBest_gt (numAt xs) (xs.size - 1)
  refine h h' tk _ t (old_keptT hk) ?_ fun a ha => ?_
  · rw [numAt_eq]; exact PySem.getD_mem (by rw [List.length_map, Array.length_toList]; omega)
  · obtain ⟨j, hj, rfl⟩ := mem_getD ha
    rw [List.length_map, Array.length_toList] at hj
    rw [← numAt_eq]; exact h2 j (by omega)
theorem min_rawT (hh : A.handled = none) (hl : s.heap.IsTuple l its.toArray) (hi : IntsAre its ns) (hne : 0 < ns.length)
    (h : ∀ h' tk M t', (∀ b o, s.heap.get? b = some o → h'.get? b = some o) → M ∈ ns → (∀ a, a ∈ ns → M ≤ a) → Q (.int M t') { s with heap := h', toks := tk }) : wpAny (model prog w) A (call (.builtin "min") [.ref l]) Q E s := by
  obtain ⟨xs, e⟩ := hi.allInts.items
  have hn : numsOf (intItems xs).toList = ns := by rw [← e]; exact hi.numsOf
  rw [nums_intItems] at hn
  subst hn
  rw [e] at hl
  have hsz : 0 < xs.size := by simpa using hne
  refine call_min_walk (iter_tupI hl fun s₂ e st hfp hlI => ?_)
  subst e
  refine ⟨_, _, _, _, _, _, _, rfl, Walks.tuple (A := A.in1) hh _ l hlI (intItems xs), st, hfp, by simpa [intItems] using hsz, CmpOf.ints_lt (numAt xs) (fun _ _ => intItems_at), fun v h' tk hP hk => ?_⟩
  have hv : (intItems xs)[argBest (fun i j => decide (numAt xs i < numAt xs j)) (xs.size - 1)]? = some v := by simpa [intItems] using hP
  obtain ⟨t, rfl⟩ := intItems_at hv
  obtain ⟨h1, h2⟩ := argBest_lt (numAt xs) (xs.size - 1)
  refine h h' tk _ t (old_keptT hk) ?_ fun a ha => ?_
  · rw [numAt_eq]; exact PySem.getD_mem (by rw [List.length_map, Array.length_toList]; omega)
  · obtain ⟨j, hj, rfl⟩ := mem_getD ha
    rw [List.length_map, Array.length_toList] at hj
    rw [← numAt_eq]; exact h2 j (by omega)
/-- what is collected of a tuple -/
theorem collect_tup {l : Addr} {vs : List Value} {Q : List Value → Shared → Prop} (hl : s.heap.IsTuple l vs.toArray)
    (h : Q vs { s with heap := (s.heap.push (seqObj "list" #[] 0)).update s.heap.objs.size (Obj.mapSeq (· ++ vs.toArray)) }) (hsz : vs.length ≤ sizeLine) :
    wpAny (model prog w) A (collect (.ref l)) Q E s := by
  obtain ⟨o, ho, hc, n, hd⟩ := id hl
  unfold collect
  refine wpAny_bind (wpAny_runValue (codeAny_builtin entry_proto_collect' ?_))
  show wpAny _ _ (do again (.builtin "list.__iadd__" ⟨[← newList [], .ref l], []⟩)) _ _ s
  refine wpAny_bind (wpAny_newList (wpAny_pure ⟨Code.quiet_builtin _ (by decide +kernel), codeAny_builtin entry_list_iadd' ?_⟩))
  show wpAny _ _ (Builtin.List.listExtendWith (.ref s.heap.objs.size) (.ref l) (.ref s.heap.objs.size)) _ _ { s with heap := s.heap.push (seqObj "list" #[] 0) }
  unfold Builtin.List.listExtendWith
  have ho' : (s.heap.push (seqObj "list" #[] 0)).get? l = some o := Heap.get?_push_of_some _ ho
  refine wpAny_bind (wpAny_typeOf (T := "tuple") ⟨o, ho', hc⟩ ?_)
  have ht : (Value.type "tuple" == Value.type "tuple") = true := by rfl
  rw [if_pos (by rw [ht]; simp)]
  refine wpAny_bind (listItems_at ho' hd ?_)
  refine wpAny_bind (listItems_at (xs := #[]) (n := 0) (Heap.get?_push_size _ rfl) rfl ?_)
  rw [if_neg (by simp)]
  refine wpAny_bind (listUpdate_at (xs := #[]) (n := 0) (Heap.get?_push_size _ rfl) rfl ?_ (Nat.zero_le _) (by show (#[] ++ vs.toArray).size ≤ sizeLine + 1; simp only [Array.size_append, List.size_toArray, List.length_nil]; omega))
  refine wpAny_pure ?_
  show wpAny (model prog w) A (do
      let o ← load s.heap.objs.size
      match o.data with
      | .seq xs _ => pure xs.toList
      | _ => unsupported "internal:collect") Q E { s with heap := (s.heap.push (seqObj "list" #[] 0)).update s.heap.objs.size (Obj.mapSeq (· ++ vs.toArray)) }
  refine wpAny_bind (wpAny_load (get?_update_seq (Heap.get?_push_size _ rfl) _) ?_)
  show wpAny _ _ (pure ((#[] : Array Value) ++ vs.toArray).toList) Q E _
  rw [show ((#[] : Array Value) ++ vs.toArray).toList = vs by simp]
  exact wpAny_pure h
open SrtO Srt in
theorem sorted_ordT {l : Addr} {vs : List Value} {ltv : Value → Value → Bool} {Q : Value → Shared → Prop} (O : Swo ltv) (hl : s.heap.IsTuple l vs.toArray) (hz : vs.length ≤ sizeLine)
    (hS : 2 ≤ vs.length → ∀ (h₁ : Heap) (a : Addr), h₁.get? a = some (seqObj "list" vs.toArray 0) → (∀ b o, s.heap.get? b = some o → b ≠ a ∧ h₁.get? b = some o) → SortableO prog w A.in1.in1 { s with heap := h₁ } a vs ltv)
    (h : ∀ out : List Value, Srtd ltv out → Stb ltv out vs → Q (.ref (s.heap.objs.size + 1)) { s with heap := sortedAll s.heap vs out.toArray }) :
    wpAny (model prog w) A (call (.builtin "sorted") [.ref l]) Q E s := by
  refine Calls.call_function_entry kind_sorted plain_sorted entry_sorted (args_sorted1 _) ?_
  unfold Builtin.«sorted»
  refine wpAny_bind (m := checkCount "sorted" 1 1 _) (wpAny_pure ?_)
  refine wpAny_bind (collect_tup hl ?_ hz)
  refine wpAny_bind (wpAny_newList ?_ hz)
  have hsz : ((s.heap.push (seqObj "list" #[] 0)).update s.heap.objs.size (Obj.mapSeq (· ++ vs.toArray))).objs.size = s.heap.objs.size + 1 := by
    rw [Heap.size_update, size_push']
  have hoL : (((s.heap.push (seqObj "list" #[] 0)).update s.heap.objs.size (Obj.mapSeq (· ++ vs.toArray))).push (seqObj "list" vs.toArray 0)).get? (s.heap.objs.size + 1) = some (seqObj "list" vs.toArray 0) := by
    rw [← hsz]; exact Heap.get?_push_size _ rfl
  have keep : ∀ b o, s.heap.get? b = some o → b ≠ s.heap.objs.size + 1 ∧ (((s.heap.push (seqObj "list" #[] 0)).update s.heap.objs.size (Obj.mapSeq (· ++ vs.toArray))).push (seqObj "list" vs.toArray 0)).get? b = some o := fun b o q => by
    have hlt : b < s.heap.objs.size := Heap.lt_size q
    refine ⟨Nat.ne_of_lt (Nat.lt_succ_of_lt hlt), Heap.get?_push_of_some _ ?_⟩
    rw [Heap.get?_update_ne _ _ _ _ (Nat.ne_of_lt hlt)]
    exact Heap.get?_push_of_some _ q
  show wpAny _ _ _ _ _ { s with heap := ((s.heap.push (seqObj "list" #[] 0)).update s.heap.objs.size (Obj.mapSeq (· ++ vs.toArray))).push (seqObj "list" vs.toArray 0) }
  rw [hsz]
  refine wpAny_bind (wpAny_holding (wpAny_call_entry slot_list_sort ⟨_, hoL, rfl⟩ entry_list_sort (list_sort_ord O hoL hz (fun h2 => hS h2 _ _ hoL keep) fun out hs hb => ⟨_, rfl, ?_⟩) (args_list_sort _)))
  exact wpAny_pure ⟨_, rfl, h out hs hb⟩
end
def rMaxT (K : PySem.W.Frag) : List V → Hp → VK → Prop := fun vs H Q => ∃ (a : Addr) (ns : List Int), vs = [V.ref a] ∧ SqT K H a (ns.map V.int) ∧ 0 < ns.length ∧ ∀ m, m ∈ ns → (∀ y, y ∈ ns → y ≤ m) → Q (.int m) H
def rMinT (K : PySem.W.Frag) : List V → Hp → VK → Prop := fun vs H Q => ∃ (a : Addr) (ns : List Int), vs = [V.ref a] ∧ SqT K H a (ns.map V.int) ∧ 0 < ns.length ∧ ∀ m, m ∈ ns → (∀ y, y ∈ ns → m ≤ y) → Q (.int m) H
def rSrtT (K : PySem.W.Frag) : List V → Hp → VK → Prop := fun vs H Q => ∃ (a : Addr) (ns : List Int), vs = [V.ref a] ∧ SqT K H a (ns.map V.int) ∧
  ∀ (ns' : List Int) (p : Addr), ns'.Perm ns → ns'.Pairwise (· ≤ ·) → H p = none → Q (.ref p) (upd H p (.lst (ns'.map V.int)))
section
variable {X : Cx}
theorem cr_maxTu (hc : X.calm = true) : CallR X (.builtin "max") (rMaxT X.K) := by
  intro pins s σ H vs us Q I r h
  obtain ⟨a, ns, rfl, hs, hne, q⟩ := h
  obtain ⟨its, rv, hl, _⟩ := I.tuple hs
  rw [Vals.ref1 r]
  exact max_rawT (I.ok.hd hc) hl rv.ints hne fun h' tk m t' hk h1 h2 => ⟨.int _, H, I.kept hk, ⟨_, rfl⟩, q m h1 h2⟩
theorem cr_minTu (hc : X.calm = true) : CallR X (.builtin "min") (rMinT X.K) := by
  intro pins s σ H vs us Q I r h
  obtain ⟨a, ns, rfl, hs, hne, q⟩ := h
  obtain ⟨its, rv, hl, _⟩ := I.tuple hs
  rw [Vals.ref1 r]
  exact min_rawT (I.ok.hd hc) hl rv.ints hne fun h' tk m t' hk h1 h2 => ⟨.int _, H, I.kept hk, ⟨_, rfl⟩, q m h1 h2⟩
theorem cr_sortedTu : CallR X (.builtin "sorted") (rSrtT X.K) := by
  intro pins s σ H vs us Q I r h
  obtain ⟨a, ns, rfl, hs, q⟩ := h
  obtain ⟨its, rv, hl, hz⟩ := I.tuple hs
  rw [Vals.ref1 r]
  have hi := rv.ints
  refine sorted_ordT SrtO.swo_int hl (by rw [← rv.length]; exact hz) (fun h2 h₁ a' _ _ => SrtO.ints_sortable hi h2) fun out h1 h2 => ?_
  obtain ⟨k1, k2, k3⟩ := SrtO.ints_out hi h1 h2
  obtain ⟨ep, he'⟩ := PyProof.Rows.sortedAll_at s.heap its out.toArray
  have hlen : ((out.map SrtO.iv).map V.int).length ≤ sizeLine := by
    rw [List.length_map, k2.length_eq]
    rw [List.length_map] at hz
    exact hz
  exact ⟨.ref _, upd H (s.heap.objs.size + 1) (.lst ((out.map SrtO.iv).map V.int)), I.laid (t' := s.toks) (fun _ _ => PyProof.Rows.sortedAll_old) (Nat.le_succ _) ⟨hlen, out, ep, vals_of_ints k1, he'⟩, rfl, q _ _ k2 k3 (I.hok.fresh (Nat.le_succ _))⟩
end
section
variable {K : PySem.W.Frag} {F H : Hp}
/-- numbers in a list or a tuple -/
theorem sq_ints {v : V} {ds : List D} {is : List Int} (hs : Same F H) (hi : intsOf ds = some is) (h : DpT K F H v (.list ds)) : ∃ a, v = .ref a ∧ SqL K H a (is.map V.int) := by
  obtain ⟨a, us, rfl, h1, h2⟩ := dpt_lst hs h
  rw [intsOf_eq hi] at h2
  rw [dps_ints h2] at h1
  exact ⟨a, rfl, h1⟩
theorem sq_intsT {v : V} {ds : List D} {is : List Int} (hs : Same F H) (hi : intsOf ds = some is) (h : DpT K F H v (.tuple ds)) : ∃ a, v = .ref a ∧ SqT K H a (is.map V.int) := by
  obtain ⟨a, us, rfl, h1, h2⟩ := dpt_tup hs h
  rw [intsOf_eq hi] at h2
  rw [dps_ints h2] at h1
  exact ⟨a, rfl, h1⟩
theorem sq_bls {v : V} {ds : List D} {is : List Bool} (hs : Same F H) (hi : blsOf ds = some is) (h : DpT K F H v (.list ds)) : ∃ a, v = .ref a ∧ SqL K H a (is.map V.bl) := by
  obtain ⟨a, us, rfl, h1, h2⟩ := dpt_lst hs h
  rw [blsOf_eq hi] at h2
  rw [dps_bls h2] at h1
  exact ⟨a, rfl, h1⟩
end
def onInts (f : List Int → Option Rv) : List D → Option Rv
  | [.list ds] => (intsOf ds).bind f
  | [.tuple ds] => (intsOf ds).bind f
  | _ => none
def onIntsL (f : List Int → Option Rv) : List D → Option Rv
  | [.list ds] => (intsOf ds).bind f
  | _ => none
def onBlsL (f : List Bool → Option Rv) : List D → Option Rv
  | [.list ds] => (blsOf ds).bind f
  | _ => none
def sortedF : List D → Option Rv := onInts fun is => some (.own (.lst ((sortI is).map PyData.int)))
noncomputable def maxF : List D → Option Rv := onInts fun is => if Ok (is = []) then none else some (.val (.int (maxI is)))
noncomputable def minF : List D → Option Rv := onInts fun is => if Ok (is = []) then none else some (.val (.int (minI is)))
def sumF : List D → Option Rv := onIntsL fun is => some (.val (.int is.sum))
def anyF : List D → Option Rv := onBlsL fun is => some (.val (.bool (is.any id)))
def allF : List D → Option Rv := onBlsL fun is => some (.val (.bool (is.all id)))
section
variable {K : PySem.W.Frag}
theorem onInts_ok {rL rT : List V → Hp → VK → Prop} {f : List Int → Option Rv}
    (hL : ∀ (F H : Hp) (a : Addr) (is : List Int) (rv : Rv) (Q : VK), SqL K H a (is.map V.int) → f is = some rv → Gives K F H Q rv → rL [.ref a] H Q)
    (hT : ∀ (F H : Hp) (a : Addr) (is : List Int) (rv : Rv) (Q : VK), SqT K H a (is.map V.int) → f is = some rv → Gives K F H Q rv → rT [.ref a] H Q) : OpN K (fun xs H Q => rL xs H Q ∨ rT xs H Q) (onInts f) := fun F H xs as rv Q hs hd e g => by
  unfold onInts at e
  split at e
  · obtain ⟨is, h1, h2⟩ := Option.bind_eq_some_iff.mp e
    obtain ⟨v, rfl, h⟩ := dpts1 hd
    obtain ⟨a, rfl, h3⟩ := sq_ints hs h1 h
    exact .inl (hL F H a is rv Q h3 h2 g)
  · obtain ⟨is, h1, h2⟩ := Option.bind_eq_some_iff.mp e
    obtain ⟨v, rfl, h⟩ := dpts1 hd
    obtain ⟨a, rfl, h3⟩ := sq_intsT hs h1 h
    exact .inr (hT F H a is rv Q h3 h2 g)
  · cases e
theorem sorted_ok : OpN K (fun xs H Q => rSortedI K xs H Q ∨ rSrtT K xs H Q) sortedF := onInts_ok
  (fun F H a is rv Q h e g => by cases e; exact ⟨a, is, rfl, h, fun ns' p h1 h2 hp => by rw [sortI_eq h1 h2]; exact g p _ hp ⟨_, rfl, dps_of_ints _⟩⟩)
  (fun F H a is rv Q h e g => by cases e; exact ⟨a, is, rfl, h, fun ns' p h1 h2 hp => by rw [sortI_eq h1 h2]; exact g p _ hp ⟨_, rfl, dps_of_ints _⟩⟩)
theorem pos_len {is : List Int} (h : is ≠ []) : 0 < is.length := by
  cases is with
  | nil => exact absurd rfl h
  | cons a b => simp
theorem max_ok : OpN K (fun xs H Q => rMax K xs H Q ∨ rMaxT K xs H Q) maxF := onInts_ok
  (fun F H a is rv Q h e g => by
    by_cases hn : is = []
    · rw [ok_pos hn] at e; cases e
    · rw [ok_neg hn] at e; cases e; exact ⟨a, is, rfl, h, pos_len hn, fun m h1 h2 => by rw [maxI_eq h1 h2]; exact g.int⟩)
  (fun F H a is rv Q h e g => by
    by_cases hn : is = []
    · rw [ok_pos hn] at e; cases e
    · rw [ok_neg hn] at e; cases e; exact ⟨a, is, rfl, h, pos_len hn, fun m h1 h2 => by rw [maxI_eq h1 h2]; exact g.int⟩)
theorem min_ok : OpN K (fun xs H Q => rMin K xs H Q ∨ rMinT K xs H Q) minF := onInts_ok
  (fun F H a is rv Q h e g => by
    by_cases hn : is = []
    · rw [ok_pos hn] at e; cases e
    · rw [ok_neg hn] at e; cases e; exact ⟨a, is, rfl, h, pos_len hn, fun m h1 h2 => by rw [minI_eq h1 h2]; exact g.int⟩)
  (fun F H a is rv Q h e g => by
    by_cases hn : is = []
    · rw [ok_pos hn] at e; cases e
    · rw [ok_neg hn] at e; cases e; exact ⟨a, is, rfl, h, pos_len hn, fun m h1 h2 => by rw [minI_eq h1 h2]; exact g.int⟩)
theorem sum_ok : OpN K (rSum K) sumF := fun F H xs as rv Q hs hd e g => by
  unfold sumF onIntsL at e
  split at e
  · obtain ⟨is, h1, h2⟩ := Option.bind_eq_some_iff.mp e
    obtain ⟨v, rfl, h⟩ := dpts1 hd
    obtain ⟨a, rfl, h3⟩ := sq_ints hs h1 h
    cases h2
    exact ⟨a, is, rfl, h3, g.int⟩
  · cases e
theorem any_ok : OpN K (rAny K) anyF := fun F H xs as rv Q hs hd e g => by
  unfold anyF onBlsL at e
  split at e
  · obtain ⟨is, h1, h2⟩ := Option.bind_eq_some_iff.mp e
    obtain ⟨v, rfl, h⟩ := dpts1 hd
    obtain ⟨a, rfl, h3⟩ := sq_bls hs h1 h
    cases h2
    exact ⟨a, is, rfl, h3, g.bool⟩
  · cases e
theorem all_ok : OpN K (rAll K) allF := fun F H xs as rv Q hs hd e g => by
  unfold allF onBlsL at e
  split at e
  · obtain ⟨is, h1, h2⟩ := Option.bind_eq_some_iff.mp e
    obtain ⟨v, rfl, h⟩ := dpts1 hd
    obtain ⟨a, rfl, h3⟩ := sq_bls hs h1 h
    cases h2
    exact ⟨a, is, rfl, h3, g.bool⟩
  · cases e
end
end MP

namespace MP
open PySem PySem.Spec L2

/-! ### max, min of two numbers -/
def max2F : List D → Option Rv
  | [.int i, .int j] => some (.val (.int (if j > i then j else i)))
  | _ => none
def min2F : List D → Option Rv
  | [.int i, .int j] => some (.val (.int (if j < i then j else i)))
  | _ => none
theorem max2_ok {K : PySem.W.Frag} : OpN K (fun xs H Q => ∃ i j, xs = [.int i, .int j] ∧ Q (.int (if j > i then j else i)) H) max2F := fun F H xs as rv Q hs hd e g => by
  unfold max2F at e
  split at e
  · cases e
    obtain ⟨v, w, rfl, h1, h2⟩ := dpts2 hd
    exact ⟨_, _, by rw [dpt_int h1, dpt_int h2], g.int⟩
  · cases e
theorem min2_ok {K : PySem.W.Frag} : OpN K (fun xs H Q => ∃ i j, xs = [.int i, .int j] ∧ Q (.int (if j < i then j else i)) H) min2F := fun F H xs as rv Q hs hd e g => by
  unfold min2F at e
  split at e
  · cases e
    obtain ⟨v, w, rfl, h1, h2⟩ := dpts2 hd
    exact ⟨_, _, by rw [dpt_int h1, dpt_int h2], g.int⟩
  · cases e

/-! ### isinstance of data -/
inductive Ty where
  | int | bool | str | list | tuple
  deriving DecidableEq
def Ty.nm : Ty → String
  | .int => "int"
  | .bool => "bool"
  | .str => "str"
  | .list => "list"
  | .tuple => "tuple"
def isiB : Ty → D → Bool
  | .int, .int _ => true
  | .int, .bool _ => true
  | .bool, .bool _ => true
  | .str, .str _ => true
  | .list, .list _ => true
  | .tuple, .tuple _ => true
  | _, _ => false
def isiF (t : Ty) (d : D) : Option Rv := match d with
  | .dict _ => none
  | d => some (.val (.bool (isiB t d)))
section
variable {K : PySem.W.Frag} {F H : Hp}
def tyName : D → String
  | .none => "NoneType"
  | .bool _ => "bool"
  | .int _ => "int"
  | .str _ => "str"
  | .list _ => "list"
  | .tuple _ => "tuple"
  | .dict _ => "dict"
theorem tyx_of {v : V} {d : D} (hs : Same F H) (h : DpT K F H v d) (hd : ∀ x, d ≠ .dict x) : TyX K H v (.type (tyName d)) := by
  cases d with
  | list ds =>
    obtain ⟨a, us, rfl, h1, h2⟩ := dpt_lst hs h
    rcases h1 with (h1 | ⟨o, h1⟩) | ⟨o, its, n, h1, h3, _⟩
    · exact .base (.lst h1)
    · exact .base (.frz h1)
    · exact .kList h1 h3
  | none => cases (show Dp K F v _ from h); exact .base .non
  | bool b => cases (show Dp K F v _ from h); exact .base (.bl _)
  | int b => cases (show Dp K F v _ from h); exact .base (.int _)
  | str b => cases (show Dp K F v _ from h); exact .base (.str _)
  | tuple b =>
    obtain ⟨a, us, rfl, h1, h2⟩ := dpt_tup hs h
    rcases h1 with (h1 | ⟨o, h1⟩) | ⟨o, its, n, h1, h3, _⟩
    · exact .base (.tup h1)
    · exact .fTuple h1
    · exact .kTuple h1 h3
  | dict x => exact absurd rfl (hd x)
end
section
variable {K : PySem.W.Frag}
theorem isi_kit (t : Ty) (d : D) (hd : ∀ x, d ≠ .dict x) : PySem.W.kitOne K (.type (tyName d)) (.type t.nm) = some (isiB t d) := by
  cases d <;> cases t <;> first | rfl | exact absurd rfl (hd _)
variable {X : Cx} {cl : Cl} {W : WX} {e : Expr} {es : List Expr} {p p2 pos : Pos} {ma mb : M Ret}
theorem isi_eq {t : Ty} {d : D} {rv : Rv} (e : isiF t d = some rv) : (∀ x, d ≠ .dict x) ∧ rv = .val (.bool (isiB t d)) := by
  cases d with
  | dict x => cases e
  | none => cases e; exact ⟨fun _ z => (nomatch z), rfl⟩
  | bool x => cases e; exact ⟨fun _ z => (nomatch z), rfl⟩
  | int x => cases e; exact ⟨fun _ z => (nomatch z), rfl⟩
  | str x => cases e; exact ⟨fun _ z => (nomatch z), rfl⟩
  | list x => cases e; exact ⟨fun _ z => (nomatch z), rfl⟩
  | tuple x => cases e; exact ⟨fun _ z => (nomatch z), rfl⟩
theorem den_isi (t : Ty) {x : Str} (hg : Gl X "isinstance") (hm : X.mg "isinstance" = none) (gt : Gl X x) (mt : X.mg x = none) (hx : bootBuiltins x = some (.type t.nm)) (ha : PE X e (tM X.K cl W ma))
    (hn : x ≠ "__name__" := by decide) (hd : (x == ("__debug__" : Str)) = false := by decide) (hs1 : starEach [e, .Name x p2] X.env = (false, eval e X.env) :: starEach [.Name x p2] X.env := by rfl) (hs2 : starEach [.Name x p2] X.env = (false, eval (.Name x p2) X.env) :: starEach [] X.env := by rfl) (hpl : (backTo pos (starEach [.Name x p2] X.env)).any (·.1) = false := by rfl) :
    PE X (.Call (.Name "isinstance" p) [e, .Name x p2] [] pos) (tM X.K cl W (m1 (isiF t) ma)) :=
  PE.imp (pe_callB call_isi hg hm PyProof.Rows.boot_isinstance (pa_cons ha (pa_cons (pe_bltn gt mt hx (v := .ty t.nm) rfl hn hd) pa_nil hs2) hs1) (by decide) (by decide) hs1 hpl) fun σ H Q h =>
    tUn_of (r := fun y H Q => rIsi X.K [y, .ty t.nm] H Q) (f := isiF t) (fun F H y a rv Q hs hd' e' g => by
      obtain ⟨h1, rfl⟩ := isi_eq e'
      exact ⟨y, .ty t.nm, _, _, _, rfl, .ty _, tyx_of hs hd' h1, isi_kit t a h1, g.bool⟩) σ H Q h

/-! ### list(range(..)), tuple(range(..)) -/
def smallR (i j : Int) : Bool := decide (0 ≤ i) && decide (i ≤ 1000000) && decide (-1000000 ≤ j) && decide (j ≤ 1000000)
theorem smallR_ok {i j : Int} (h : smallR i j = true) : RgOk i j := by
  unfold smallR at h
  simp at h
  obtain ⟨⟨⟨h1, h2⟩, h3⟩, h4⟩ := h
  refine ⟨by omega, by omega, by omega, by omega, by omega⟩
noncomputable def lrg1F : D → Option Rv
  | .int j => if Ok (smallR 0 j = true) then some (.own (.lst (rangeD 0 j))) else none
  | _ => none
noncomputable def trg1F : D → Option Rv
  | .int j => if Ok (smallR 0 j = true) then some (.val (.tuple (rangeD 0 j))) else none
  | _ => none
noncomputable def lrg2F : D → D → Option Rv
  | .int i, .int j => if Ok (smallR i j = true) then some (.own (.lst (rangeD i j))) else none
  | _, _ => none
noncomputable def trg2F : D → D → Option Rv
  | .int i, .int j => if Ok (smallR i j = true) then some (.val (.tuple (rangeD i j))) else none
  | _, _ => none
theorem dps_fun {K : PySem.W.Frag} {F : Hp} (f : Nat → Int) : ∀ l : List Nat, DpAll K F (l.map fun i => V.int (f i)) (l.map fun i => PyData.int (f i))
  | [] => .nil
  | i :: l => .cons (.int _) (dps_fun f l)
theorem dps_rg {K : PySem.W.Frag} {F : Hp} {i j : Int} : DpAll K F (rgV i j) (rangeD i j) := dps_fun _ _
variable {hc : X.calm = true} {a b : Expr}
theorem den_lrg1 (hc : X.calm = true) (hg : Gl X "list") (hm : X.mg "list" = none) (hg2 : Gl X "range") (hm2 : X.mg "range" = none) (ha : PE X a (tM X.K cl W ma)) {q2 q3 : Pos} (na : starEach [a] X.env = (false, eval a X.env) :: starEach [] X.env := by rfl)
    (na2 : starEach [.Call (.Name "range" q2) [a] [] q3] X.env = (false, eval (.Call (.Name "range" q2) [a] [] q3) X.env) :: starEach [] X.env := by rfl) : PE X (.Call (.Name "list" p) [.Call (.Name "range" q2) [a] [] q3] [] pos) (tM X.K cl W (m1 lrg1F ma)) :=
  PE.imp (pe_listRg hc hg hm (prg_1 hg2 hm2 ha na) na2) fun σ H Q h => tUn_of (r := fun x H Q => ∃ n, x = .int n ∧ RgOk 0 n ∧ ∀ q, H q = none → Q (.ref q) (upd H q (.lst (rgV 0 n)))) (f := lrg1F) (fun F H y a rv Q hs hd' e' g => by
    unfold lrg1F at e'
    split at e'
    · split at e'
      · rename_i hl; cases e'; exact ⟨_, dpt_int hd', smallR_ok hl, fun q hq => g q _ hq ⟨_, rfl, dps_rg⟩⟩
      · cases e'
    · cases e') σ H Q h
theorem den_lrg2 (hc : X.calm = true) (hg : Gl X "list") (hm : X.mg "list" = none) (hg2 : Gl X "range") (hm2 : X.mg "range" = none) (ha : PE X a (tM X.K cl W ma)) (hb : PE X b (tM X.K cl W mb)) {q2 q3 : Pos} (na : starEach [a, b] X.env = (false, eval a X.env) :: starEach [b] X.env := by rfl)
    (nb : starEach [b] X.env = (false, eval b X.env) :: starEach [] X.env := by rfl) (hp : (backTo q3 (starEach [b] X.env)).any (·.1) = false := by rfl)
    (na2 : starEach [.Call (.Name "range" q2) [a, b] [] q3] X.env = (false, eval (.Call (.Name "range" q2) [a, b] [] q3) X.env) :: starEach [] X.env := by rfl) : PE X (.Call (.Name "list" p) [.Call (.Name "range" q2) [a, b] [] q3] [] pos) (tM X.K cl W (m2 lrg2F ma mb)) :=
  PE.imp (pe_listRg hc hg hm (prg_2 hg2 hm2 ha hb na nb hp) na2) fun σ H Q h => tOp_of (r := fun x y H Q => ∃ i j, x = .int i ∧ y = .int j ∧ RgOk i j ∧ ∀ q, H q = none → Q (.ref q) (upd H q (.lst (rgV i j)))) (f := lrg2F) (fun F H y z a b rv Q hs hd' hd2 e' g => by
    unfold lrg2F at e'
    split at e'
    · split at e'
      · rename_i hl; cases e'; exact ⟨_, _, dpt_int hd', dpt_int hd2, smallR_ok hl, fun q hq => g q _ hq ⟨_, rfl, dps_rg⟩⟩
      · cases e'
    · cases e') σ H Q h
end

/-! ### methods that change a list of one's own -/
/-- the list and the arguments: the list then, and what is given -/
abbrev MF := List D → List D → Option (List D × D)
def ArgOk (K : PySem.W.Frag) (F H : Hp) (xs : List V) (as : List D) : Bool → Prop
  | true => DpAll K F xs as
  | false => DpTs K F H xs as
def MutR (K : PySem.W.Frag) (B : Bool) (r : V → List V → Hp → VK → Prop) (f : MF) : Prop :=
  ∀ (F H : Hp) (p : Addr) (us : List V) (ds : List D) (xs : List V) (as ds' : List D) (d : D) (Q : VK), Same F H → H p = some (.lst us) → DpAll K F us ds → ArgOk K F H xs as B → f ds as = some (ds', d) →
    (∀ us' v, DpAll K F us' ds' → Dp K F v d → Q v (upd H p (.lst us'))) → r (.ref p) xs H Q
def putM (i : Nat) (E : SEnv) (s : Option Slot) (as : List D) (f : MF) : Res Ret := match s with
  | some (.own (.lst ls)) => (match f ls as with
    | some (ls', d) => .ok (.val d) (E.set i (.own (.lst ls')))
    | none => .no)
  | some (.lnt (.lst ls)) => (match f ls as with
    | some (ls', d) => .ok (.val d) (E.set i (.lnt (.lst ls')))
    | none => .no)
  | _ => .no
def mMut (i : Nat) (f : MF) (as : M (List Ret)) : M Ret := fun E => (as E).bind fun rs E1 => match takes E1 rs with
  | some (ds, E2) => putM i E2 E2[i]? ds f
  | none => .no
def mMutB (i : Nat) (f : MF) (as : M (List Ret)) : M Ret := fun E => (as E).bind fun rs E1 => match dats E1 rs with
  | some ds => putM i E1 E1[i]? ds f
  | none => .no
section
variable {X : Cx} {cl : Cl} {W : WX} {e : Expr} {es : List Expr} {apos vpos cpos : Pos} {ms : M (List Ret)}
theorem put_run {K : PySem.W.Frag} {C : Ctx} {F : Hp} {ρ : Own} {T : List (V × Ret)} {σ : St} {H : Hp} {E : SEnv} {i : Nat} {v : V} {xs : List V} {as : List D} {f : MF} {B : Bool} {r : V → List V → Hp → VK → Prop} {Q : VK} (R : RelF K cl C F ρ E T σ H) (b : σ[i]? = some (some v))
    (hf : MutR K B r f) (ha : ArgOk K F H xs as B) (h : Run K cl W C T σ (fun r E' => ∀ v H', Rel K cl C E' (T ++ [(v, r)]) σ H' → Bor σ v r → Q v H') (putM i E E[i]? as f)) : r v xs H Q := by
  unfold putM at h
  split at h
  · rename_i ls e
    split at h
    · rename_i ls' d e2
      obtain ⟨p, z1, ⟨ho, z2, ⟨us, rfl, z3⟩, z4, z5⟩, z6⟩ := R.sl i _ _ b e
      cases z1
      exact hf F H p us ls xs as ls' d Q R.fh z2 z3 ha e2 fun us' v h1 h2 => h v _ ((R.mut_own e b (o' := .lst ls') ⟨us', rfl, h1⟩).push_val h2).rel trivial
    · exact h.elim
  · rename_i ls e
    split at h
    · rename_i ls' d e2
      obtain ⟨p, z1, ⟨ho, z2, ⟨us, rfl, z3⟩, z4, z5⟩, z6⟩ := R.sl i _ _ b e
      cases z1
      exact hf F H p us ls xs as ls' d Q R.fh z2 z3 ha e2 fun us' v h1 h2 => h v _ ((R.mut_lnt e b (o' := .lst ls') ⟨us', rfl, h1⟩).push_val h2).rel trivial
    · exact h.elim
  · exact h.elim
theorem lst_ty {K : PySem.W.Frag} {C : Ctx} {F : Hp} {ρ : Own} {T : List (V × Ret)} {σ : St} {H : Hp} {E : SEnv} {i : Nat} {v : V} (R : RelF K cl C F ρ E T σ H) (b : σ[i]? = some (some v)) (h : ∃ ls, E[i]? = some (.own (.lst ls)) ∨ E[i]? = some (.lnt (.lst ls))) : tyV K "list" v H := by
  obtain ⟨ls, h | h⟩ := h
  · obtain ⟨p, z1, ⟨ho, z2, ⟨us, rfl, z3⟩, z4, z5⟩, z6⟩ := R.sl i _ _ b h
    cases z1
    exact .inl ⟨rfl, us, SqL.of z2⟩
  · obtain ⟨p, z1, ⟨ho, z2, ⟨us, rfl, z3⟩, z4, z5⟩, z6⟩ := R.sl i _ _ b h
    cases z1
    exact .inl ⟨rfl, us, SqL.of z2⟩
/-- the slot holds a list when the method is looked up -/
def isLst (E : SEnv) (i : Nat) : Bool := match E[i]? with
  | some (.own (.lst _)) => true
  | some (.lnt (.lst _)) => true
  | _ => false
theorem isLst_at {E : SEnv} {i : Nat} (h : isLst E i = true) : ∃ ls, E[i]? = some (.own (.lst ls)) ∨ E[i]? = some (.lnt (.lst ls)) := by
  unfold isLst at h
  split at h
  · rename_i e; exact ⟨_, .inl e⟩
  · rename_i e; exact ⟨_, .inr e⟩
  · cases h
def guardL (i : Nat) (m : M Ret) : M Ret := fun E => if isLst E i = true then m E else .no
theorem den_mut (i : Nat) {x name : Str} {id : String} {r : V → List V → Hp → VK → Prop} {f : MF} (slot : PySem.Slot "list" name id) (hty : typeOf (.builtin id) = pure (.type "method_descriptor")) (hm : MtR X id r) (hf : MutR X.K true r f) (ha : PA X (e :: es) (tMA X.K cl W ms))
    (hN : X.N[i]? = some x := by rfl) (hv : Vis X.env.scope x := by first | exact Or.inl rfl | exact Or.inr (Or.inl rfl) | exact Or.inr (Or.inr rfl)) (hd : (x == ("__debug__" : Str)) = false := by decide) (hcd : (x == ("__classdict__" : Str)) = false := by decide)
    (pa : PlainAttrs "list" := by exact F.plainAttrs_list) (hbase : attributeBase (.Name x vpos) name X.env (eval (.Name x vpos) X.env) = eval (.Name x vpos) X.env := by rfl)
    (hfew : ((backTo cpos (starEach (e :: es) X.env)).all (fun x => !x.1) && (backToKw cpos (keywordEach [] X.env)).all (fun x => x.1.isSome)
      && decide ((e :: es).length + ([] : List Keyword).length + (if ([] : List Keyword).isEmpty then 0 else 1) < 30)) = true := by rfl)
    (hline : (apos.endLine == cpos.line) = true := by rfl) (hs : starEach (e :: es) X.env = (false, eval e X.env) :: starEach es X.env := by rfl) (hplain : (backTo cpos (starEach es X.env)).any (·.1) = false := by rfl) :
    PE X (.Call (.Attribute (.Name x vpos) name apos) (e :: es) [] cpos) (tM X.K cl W (guardL i (mMut i f ms))) := PE.imp (pe_bm pa slot hty hm (pe_var hN hv hd hcd) ha hbase hfew hline hs hplain) fun σ H Q h => by
  obtain ⟨C, E, T, R, h⟩ := h
  unfold guardL at h
  split at h
  case isFalse => exact h.elim
  rename_i hg
  obtain ⟨F, ρ, RF⟩ := _root_.id R
  obtain ⟨ls, hl⟩ := isLst_at hg
  obtain ⟨w, hw⟩ : ∃ w, σ[i]? = some w := by rcases hl with e | e <;> exact slot_there RF e
  obtain ⟨v, rfl⟩ : ∃ v, w = some v := by
    rcases hl with e | e
    · obtain ⟨p, q, _⟩ := RF.sl i _ _ hw e; exact ⟨_, q⟩
    · obtain ⟨p, q, _⟩ := RF.sl i _ _ hw e; exact ⟨_, q⟩
  refine ⟨v, hw, lst_ty RF hw ⟨ls, hl⟩, C, E, T, R, (Run.bind h).imp fun rs E1 h1 vs H1 R1 b1 => ?_⟩
  split at h1
  · rename_i ds E2 e2
    obtain ⟨F1, ρ1, RF1⟩ := R1
    obtain ⟨F2, f2, R2, d2⟩ := RF1.takes b1 e2
    exact put_run (B := true) R2 hw hf d2 h1
  · exact h1.elim
theorem den_mutB (i : Nat) {x name : Str} {id : String} {r : V → List V → Hp → VK → Prop} {f : MF} (slot : PySem.Slot "list" name id) (hty : typeOf (.builtin id) = pure (.type "method_descriptor")) (hm : MtR X id r) (hf : MutR X.K false r f) (ha : PA X (e :: es) (tMA X.K cl W ms))
    (hN : X.N[i]? = some x := by rfl) (hv : Vis X.env.scope x := by first | exact Or.inl rfl | exact Or.inr (Or.inl rfl) | exact Or.inr (Or.inr rfl)) (hd : (x == ("__debug__" : Str)) = false := by decide) (hcd : (x == ("__classdict__" : Str)) = false := by decide)
    (pa : PlainAttrs "list" := by exact F.plainAttrs_list) (hbase : attributeBase (.Name x vpos) name X.env (eval (.Name x vpos) X.env) = eval (.Name x vpos) X.env := by rfl)
    (hfew : ((backTo cpos (starEach (e :: es) X.env)).all (fun x => !x.1) && (backToKw cpos (keywordEach [] X.env)).all (fun x => x.1.isSome)
      && decide ((e :: es).length + ([] : List Keyword).length + (if ([] : List Keyword).isEmpty then 0 else 1) < 30)) = true := by rfl)
    (hline : (apos.endLine == cpos.line) = true := by rfl) (hs : starEach (e :: es) X.env = (false, eval e X.env) :: starEach es X.env := by rfl) (hplain : (backTo cpos (starEach es X.env)).any (·.1) = false := by rfl) :
    PE X (.Call (.Attribute (.Name x vpos) name apos) (e :: es) [] cpos) (tM X.K cl W (guardL i (mMutB i f ms))) := PE.imp (pe_bm pa slot hty hm (pe_var hN hv hd hcd) ha hbase hfew hline hs hplain) fun σ H Q h => by
  obtain ⟨C, E, T, R, h⟩ := h
  unfold guardL at h
  split at h
  case isFalse => exact h.elim
  rename_i hg
  obtain ⟨F, ρ, RF⟩ := _root_.id R
  obtain ⟨ls, hl⟩ := isLst_at hg
  obtain ⟨w, hw⟩ : ∃ w, σ[i]? = some w := by rcases hl with e | e <;> exact slot_there RF e
  obtain ⟨v, rfl⟩ : ∃ v, w = some v := by
    rcases hl with e | e
    · obtain ⟨p, q, _⟩ := RF.sl i _ _ hw e; exact ⟨_, q⟩
    · obtain ⟨p, q, _⟩ := RF.sl i _ _ hw e; exact ⟨_, q⟩
  refine ⟨v, hw, lst_ty RF hw ⟨ls, hl⟩, C, E, T, R, (Run.bind h).imp fun rs E1 h1 vs H1 R1 b1 => ?_⟩
  split at h1
  · rename_i ds e2
    obtain ⟨F1, ρ1, RF1⟩ := R1
    exact put_run (B := false) RF1.drop hw hf (RF1.dats rfl b1 e2) h1
  · exact h1.elim
theorem den_mut0 (i : Nat) {x name : Str} {id : String} {r : V → List V → Hp → VK → Prop} {f : MF} (slot : PySem.Slot "list" name id) (hty : typeOf (.builtin id) = pure (.type "method_descriptor")) (hm : MtR X id r) (hf : MutR X.K true r f)
    (hN : X.N[i]? = some x := by rfl) (hv : Vis X.env.scope x := by first | exact Or.inl rfl | exact Or.inr (Or.inl rfl) | exact Or.inr (Or.inr rfl)) (hd : (x == ("__debug__" : Str)) = false := by decide) (hcd : (x == ("__classdict__" : Str)) = false := by decide)
    (pa : PlainAttrs "list" := by exact F.plainAttrs_list) (hbase : attributeBase (.Name x vpos) name X.env (eval (.Name x vpos) X.env) = eval (.Name x vpos) X.env := by rfl) (hline : (apos.endLine == cpos.line) = true := by rfl) :
    PE X (.Call (.Attribute (.Name x vpos) name apos) [] [] cpos) (tM X.K cl W (guardL i (mMut i f mA0))) := PE.imp (pe_bm0 pa slot hty hm (pe_var hN hv hd hcd) hbase hline) fun σ H Q h => by
  obtain ⟨C, E, T, R, h⟩ := h
  unfold guardL at h
  split at h
  case isFalse => exact h.elim
  rename_i hg
  obtain ⟨F, ρ, RF⟩ := _root_.id R
  obtain ⟨ls, hl⟩ := isLst_at hg
  obtain ⟨w, hw⟩ : ∃ w, σ[i]? = some w := by rcases hl with e | e <;> exact slot_there RF e
  obtain ⟨v, rfl⟩ : ∃ v, w = some v := by
    rcases hl with e | e
    · obtain ⟨p, q, _⟩ := RF.sl i _ _ hw e; exact ⟨_, q⟩
    · obtain ⟨p, q, _⟩ := RF.sl i _ _ hw e; exact ⟨_, q⟩
  exact ⟨v, hw, lst_ty RF hw ⟨ls, hl⟩, put_run (B := true) RF hw hf .nil h⟩
end

/-! ### the methods -/
noncomputable def appF : MF := fun ds as => match as with
  | [d] => if Ok (ds.length < big) then some (ds ++ [d], .none) else none
  | _ => none
noncomputable def insF : MF := fun ds as => match as with
  | [.int i, d] => if Ok (ds.length < big ∧ 0 ≤ i ∧ i < 2 ^ 63) then some (ds.take i.toNat ++ [d] ++ ds.drop i.toNat, .none) else none
  | _ => none
def popF : MF := fun ds as => match as with
  | [] => (match ds[ds.length - 1]? with
    | some d => some (ds.dropLast, d)
    | none => none)
  | _ => none
noncomputable def popAtF : MF := fun ds as => match as with
  | [.int i] => if Ok (-(2 ^ 63) ≤ i ∧ i < 2 ^ 63) then (match seqIndex? i ds.length with
    | some k => (match ds[k]? with
      | some d => some (ds.eraseIdx k, d)
      | none => none)
    | none => none) else none
  | _ => none
def revF : MF := fun ds as => match as with
  | [] => some (ds.reverse, .none)
  | _ => none
noncomputable def extF : MF := fun ds as => match as with
  | [.list es] => if Ok (ds.length + es.length ≤ big) then some (ds ++ es, .none) else none
  | [.tuple es] => if Ok (ds.length + es.length ≤ big) then some (ds ++ es, .none) else none
  | _ => none
/-- the place of the first one -/
def placeI (k : Int) : List Int → Option Nat
  | [] => none
  | n :: ns => if n = k then some 0 else (placeI k ns).map (· + 1)
theorem placeI_spec {k : Int} : ∀ {ns : List Int} {j : Nat}, placeI k ns = some j → ns[j]? = some k ∧ ∀ m : Nat, m < j → ns[m]? ≠ some k
  | [], j, h => by cases h
  | n :: ns, j, h => by
    unfold placeI at h
    split at h
    · rename_i e; cases h; exact ⟨by simp [e], fun m hm => absurd hm (Nat.not_lt_zero _)⟩
    · rename_i e
      obtain ⟨j', h1, rfl⟩ := Option.map_eq_some_iff.mp h
      obtain ⟨h2, h3⟩ := placeI_spec h1
      refine ⟨by simpa using h2, fun m hm => ?_⟩
      cases m with
      | zero => simpa using e
      | succ m => simpa using h3 m (by omega)
def remF : MF := fun ds as => match as with
  | [.int k] => (match intsOf ds with
    | some ns => (match placeI k ns with
      | some j => some ((ns.eraseIdx j).map PyData.int, .none)
      | none => none)
    | none => none)
  | _ => none
section
variable {K : PySem.W.Frag}
theorem dps1 {F : Hp} {vs : List V} {d : D} (h : DpAll K F vs [d]) : ∃ v, vs = [v] ∧ Dp K F v d := by
  cases h with
  | cons a b => cases b; exact ⟨_, rfl, a⟩
theorem dps2 {F : Hp} {vs : List V} {d e : D} (h : DpAll K F vs [d, e]) : ∃ v w, vs = [v, w] ∧ Dp K F v d ∧ Dp K F w e := by
  cases h with
  | cons a b =>
    cases b with
    | cons a' b' => cases b'; exact ⟨_, _, rfl, a, a'⟩
theorem dps0 {F : Hp} {vs : List V} (h : DpAll K F vs []) : vs = [] := by cases h; rfl
theorem dp_int {F : Hp} {v : V} {i : Int} (h : Dp K F v (.int i)) : v = .int i := by cases h; rfl
theorem app_ok : MutR K true rAppend appF := fun F H p us ds xs as ds' d Q hs hp hd ha e q => by
  unfold appF at e
  split at e
  · split at e
    · rename_i hl
      cases e
      obtain ⟨v, rfl, hv⟩ := dps1 ha
      exact ⟨p, us, v, rfl, rfl, hp, by rw [dps_len hd]; exact big_lt (Nat.le_of_lt hl), q _ _ (dps_app hd (.cons hv .nil)) .non⟩
    · cases e
  · cases e
theorem ins_ok : MutR K true (fun x vs H Q => ∃ (l : Addr) (xs : List V) (i : Int) (y : V), x = .ref l ∧ vs = [.int i, y] ∧ H l = some (.lst xs) ∧ xs.length < sizeLine ∧ 0 ≤ i ∧ i < 2 ^ 63 ∧
    Q .non (upd H l (.lst (xs.take i.toNat ++ [y] ++ xs.drop i.toNat)))) insF := fun F H p us ds xs as ds' d Q hs hp hd ha e q => by
  unfold insF at e
  split at e
  · split at e
    · rename_i hl
      cases e
      obtain ⟨v, w, rfl, hv, hw⟩ := dps2 ha
      rw [dp_int hv]
      exact ⟨p, us, _, w, rfl, rfl, hp, by rw [dps_len hd]; exact big_lt (Nat.le_of_lt hl.1), hl.2.1, hl.2.2, q _ _ (dps_app (dps_app (dps_take _ hd) (.cons hw .nil)) (dps_drop _ hd)) .non⟩
    · cases e
  · cases e
theorem dps_dropLast {F : Hp} : ∀ {vs : List V} {ds : List D}, DpAll K F vs ds → DpAll K F vs.dropLast ds.dropLast
  | _, _, .nil => .nil
  | _, _, .cons h .nil => .nil
  | _, _, .cons h (.cons h2 hs) => .cons h (dps_dropLast (.cons h2 hs))
theorem pop_ok : MutR K true rPop popF := fun F H p us ds xs as ds' d Q hs hp hd ha e q => by
  unfold popF at e
  split at e
  · split at e
    · rename_i y ey
      cases e
      obtain ⟨v, h1, h2⟩ := dps_get hd ey
      exact ⟨p, us, v, rfl, dps0 ha, hp, by rw [dps_len hd]; exact h1, q _ _ (dps_dropLast hd) h2⟩
    · cases e
  · cases e
theorem popAt_ok : MutR K true rPopAt popAtF := fun F H p us ds xs as ds' d Q hs hp hd ha e q => by
  unfold popAtF at e
  split at e
  · split at e
    · rename_i hl
      split at e
      · rename_i k ek
        split at e
        · rename_i y ey
          cases e
          obtain ⟨v, h1, h2⟩ := dps_get hd ey
          obtain ⟨w, rfl, hw⟩ := dps1 ha
          rw [dp_int hw]
          exact ⟨p, us, _, k, v, rfl, rfl, hp, hl.1, hl.2, by rw [dps_len hd]; exact ek, h1, q _ _ (dps_erase _ hd) h2⟩
        · cases e
      · cases e
    · cases e
  · cases e
theorem rev_ok : MutR K true rReverse revF := fun F H p us ds xs as ds' d Q hs hp hd ha e q => by
  unfold revF at e
  split at e
  · cases e
    exact ⟨p, us, rfl, dps0 ha, hp, q _ _ (dps_rev hd) .non⟩
  · cases e
theorem rem_ok : MutR K true rRemI remF := fun F H p us ds xs as ds' d Q hs hp hd ha e q => by
  unfold remF at e
  split at e
  · split at e
    · rename_i ns en
      split at e
      · rename_i j ej
        cases e
        obtain ⟨w, rfl, hw⟩ := dps1 ha
        rw [dp_int hw]
        rw [intsOf_eq en] at hd
        rw [dps_ints hd] at hp
        obtain ⟨h1, h2⟩ := placeI_spec ej
        exact ⟨p, ns, _, j, rfl, rfl, hp, h1, h2, q _ _ (dps_of_ints _) .non⟩
      · cases e
    · cases e
  · cases e
end
/-- extend by a list or a tuple, any that is read -/
theorem list_extendG (l b : Addr) (items items2 : Array Value) (n n2 : Nat) (dd2 : Option Addr) (sl2 : Array (Option Value)) (hc0 : ¬(!items.isEmpty && Builtin.List.listTooLong (items.size + items2.size)) = true) (hc1 : items.size ≤ sizeLine) (hs2 : items.size + items2.size ≤ sizeLine + 1) :
    Meets (Builtin.«list.extend» ⟨[.ref l, .ref b], []⟩) (fun _ R s => s.heap.get? l = some { cls := .type "list", dict := none, data := .seq items n, slots := #[] } ∧ s.heap.get? b = some { cls := .type "list", dict := dd2, data := .seq items2 n2, slots := sl2 } ∧ R (.ok (.ret Value.none)) { s with heap := s.heap.update l (Obj.mapSeq fun x => x ++ items2), toks := s.toks }) :=
  .of_wp fun prog w A R s h => by
    obtain ⟨hp, g, d, tk, os⟩ := s; obtain ⟨hl, hb, h⟩ := h; have f1 := AutoSeq1.idx_int; have f2 := AutoSeq1.sub_tuple_tuple; have f3 := AutoSeq1.sub_list_list; have f4 := AutoSeq1.sub_tuple_list; have f5 := AutoSeq1.sub_list_tuple
    have hz' : (items ++ items2).size ≤ sizeLine + 1 := by rw [Array.size_append]; exact hs2
    wp_walk using (wpAny_updateSeq hl rfl (hz := hc1) (_hz' := hz')), AutoSeq1.wpAny_loadPart' hl, AutoSeq1.wpAny_loadPart' hb
    exact ⟨_, rfl, h⟩
theorem list_extendT (l b : Addr) (items items2 : Array Value) (n n2 : Nat) (dd2 : Option Addr) (sl2 : Array (Option Value)) (hc0 : ¬(!items.isEmpty && Builtin.List.listTooLong (items.size + items2.size)) = true) (hc1 : items.size ≤ sizeLine) (hs2 : items.size + items2.size ≤ sizeLine + 1) :
    Meets (Builtin.«list.extend» ⟨[.ref l, .ref b], []⟩) (fun _ R s => s.heap.get? l = some { cls := .type "list", dict := none, data := .seq items n, slots := #[] } ∧ s.heap.get? b = some { cls := .type "tuple", dict := dd2, data := .seq items2 n2, slots := sl2 } ∧ R (.ok (.ret Value.none)) { s with heap := s.heap.update l (Obj.mapSeq fun x => x ++ items2), toks := s.toks }) :=
  .of_wp fun prog w A R s h => by
    obtain ⟨hp, g, d, tk, os⟩ := s; obtain ⟨hl, hb, h⟩ := h; have f1 := AutoSeq1.idx_int; have f2 := AutoSeq1.sub_tuple_tuple; have f3 := AutoSeq1.sub_list_list; have f4 := AutoSeq1.sub_tuple_list; have f5 := AutoSeq1.sub_list_tuple
    have hz' : (items ++ items2).size ≤ sizeLine + 1 := by rw [Array.size_append]; exact hs2
    wp_walk using (wpAny_updateSeq hl rfl (hz := hc1) (_hz' := hz')), AutoSeq1.wpAny_loadPart' hl, AutoSeq1.wpAny_loadPart' hb
    exact ⟨_, rfl, h⟩
def rExtA (K : PySem.W.Frag) : V → List V → Hp → VK → Prop := fun x vs H Q => ∃ l b xs zs, x = .ref l ∧ vs = [.ref b] ∧ H l = some (.lst xs) ∧ (SqL K H b zs ∨ SqT K H b zs) ∧ xs.length + zs.length ≤ sizeLine ∧ Q .non (upd H l (.lst (xs ++ zs)))
theorem mt_extA {X : Cx} : MtR X "list.extend" (rExtA X.K) := by
  intro pins s σ H x vs v us Q I rx rv h
  obtain ⟨l, b, xs, zs, rfl, rfl, hH, hB, hz, q⟩ := h
  cases rx
  obtain ⟨u, rfl, ru⟩ := rv.one
  cases ru
  obtain ⟨z, its, n, r, hl, e⟩ := I.lstM hH
  have fin : ∀ (its2 : List Value), Vals zs its2 → its.toArray.size + its2.toArray.size ≤ sizeLine ∧ ¬ (!its.toArray.isEmpty && Builtin.List.listTooLong (its.toArray.size + its2.toArray.size)) = true ∧ EP X pins σ Q Value.none { s with heap := s.heap.update l (Obj.mapSeq fun x => x ++ its2.toArray), toks := s.toks } := fun its2 r2 => by
    have hl2 := r2.length
    have hsz : its.toArray.size + its2.toArray.size ≤ sizeLine := by rw [List.size_toArray, List.size_toArray]; omega
    refine ⟨hsz, ?_, .non, _, I.lset (its' := its ++ its2) hH e (by simp) (r.append r2) ?_, rfl, q⟩
    · rw [notLongL hsz, Bool.and_false]
      exact Bool.false_ne_true
    · rw [List.length_append]; omega
  rcases hB with hB | hB
  · obtain ⟨its2, r2, ⟨⟨c2, d2, da2, sl2⟩, n2, e2, k1, k2, k3⟩, z2⟩ := I.list hB
    simp only at k1 k2 k3
    subst k1 k2 k3
    obtain ⟨hsz, hlong, fin⟩ := fin its2 r2
    exact call_meets F.slot_list_extend ⟨_, e, rfl⟩ F.entry_list_extend (F.args_list_extend_2 _ _) (list_extendG l b its.toArray its2.toArray n n2 none sl2 hlong (by rw [List.size_toArray]; omega) (by omega)) ⟨e, e2, fin⟩
  · obtain ⟨its2, r2, ⟨⟨c2, d2, da2, sl2⟩, e2, k1, n2, k2⟩, z2⟩ := I.tuple hB
    simp only at k1 k2
    subst k1 k2
    obtain ⟨hsz, hlong, fin⟩ := fin its2 r2
    exact call_meets F.slot_list_extend ⟨_, e, rfl⟩ F.entry_list_extend (F.args_list_extend_2 _ _) (list_extendT l b its.toArray its2.toArray n n2 d2 sl2 hlong (by rw [List.size_toArray]; omega) (by omega)) ⟨e, e2, fin⟩
theorem ext_ok {K : PySem.W.Frag} : MutR K false (rExtA K) extF := fun F H p us ds xs as ds' d Q hs hp hd ha e q => by
  unfold extF at e
  split at e
  · split at e
    · rename_i hl
      cases e
      obtain ⟨v, rfl, hv⟩ := dpts1 ha
      obtain ⟨a, ws, rfl, h1, h2⟩ := dpt_lst hs hv
      exact ⟨p, a, us, ws, rfl, rfl, hp, .inl h1, by rw [dps_len hd, dps_len h2]; exact big_le hl, q _ _ (dps_app hd h2) .non⟩
    · cases e
  · split at e
    · rename_i hl
      cases e
      obtain ⟨v, rfl, hv⟩ := dpts1 ha
      obtain ⟨a, ws, rfl, h1, h2⟩ := dpt_tup hs hv
      exact ⟨p, a, us, ws, rfl, rfl, hp, .inr h1, by rw [dps_len hd, dps_len h2]; exact big_le hl, q _ _ (dps_app hd h2) .non⟩
    · cases e
  · cases e
end MP

namespace MP
open PySem PySem.Spec L2

/-! ### dicts of one's own: keys that are numbers or texts -/
section
variable {κ : Type} [DecidableEq κ]
def valD (kds : List (κ × D)) (k : κ) : Option D := (kds.find? fun p => decide (p.1 = k)).map (·.2)
def putD (kds : List (κ × D)) (k : κ) (d : D) : List (κ × D) :=
  if (kds.any fun p => decide (p.1 = k)) = true then kds.map (fun p => if p.1 = k then (p.1, d) else p) else kds ++ [(k, d)]
variable {K : PySem.W.Frag} {F : Hp}
abbrev PrK (K : PySem.W.Frag) (F : Hp) (kvs : List (κ × V)) (kds : List (κ × D)) : Prop := Paired (fun (p : κ × V) (q : κ × D) => p.1 = q.1 ∧ Dp K F p.2 q.2) kvs kds
theorem prk_len : ∀ {kvs : List (κ × V)} {kds : List (κ × D)}, PrK K F kvs kds → kvs.length = kds.length
  | _, _, .nil => rfl
  | _, _, .cons _ t => congrArg (· + 1) (prk_len t)
theorem prk_val {k : κ} : ∀ {kvs : List (κ × V)} {kds : List (κ × D)}, PrK K F kvs kds → (valV kvs k = none ∧ valD kds k = none) ∨ ∃ v d, valV kvs k = some v ∧ valD kds k = some d ∧ Dp K F v d
  | _, _, .nil => .inl ⟨rfl, rfl⟩
  | p :: kvs, q :: kds, .cons h t => by
    by_cases e : p.1 = k
    · have e' : q.1 = k := h.1 ▸ e
      exact .inr ⟨p.2, q.2, by simp [valV, List.find?_cons, e], by simp [valD, List.find?_cons, e'], h.2⟩
    · have e' : ¬ q.1 = k := h.1 ▸ e
      have := prk_val (k := k) t
      have e1 : valV (p :: kvs) k = valV kvs k := by simp [valV, List.find?_cons, e]
      have e2 : valD (q :: kds) k = valD kds k := by simp [valD, List.find?_cons, e']
      rw [e1, e2]; exact this
theorem prk_any {k : κ} : ∀ {kvs : List (κ × V)} {kds : List (κ × D)}, PrK K F kvs kds → (kvs.any fun p => decide (p.1 = k)) = (kds.any fun p => decide (p.1 = k))
  | _, _, .nil => rfl
  | p :: kvs, q :: kds, .cons h t => by rw [List.any_cons, List.any_cons, prk_any t, h.1]
theorem prk_map {k : κ} {v : V} {d : D} (hd : Dp K F v d) : ∀ {kvs : List (κ × V)} {kds : List (κ × D)}, PrK K F kvs kds → PrK K F (kvs.map fun p => if p.1 = k then (p.1, v) else p) (kds.map fun p => if p.1 = k then (p.1, d) else p)
  | _, _, .nil => .nil
  | p :: kvs, q :: kds, .cons h t => by
    refine .cons ?_ (prk_map hd t)
    by_cases e : p.1 = k
    · have e' : q.1 = k := h.1 ▸ e
      dsimp only; rw [if_pos e, if_pos e']; exact ⟨h.1, hd⟩
    · have e' : ¬ q.1 = k := h.1 ▸ e
      dsimp only; rw [if_neg e, if_neg e']; exact h
theorem prk_app : ∀ {kvs kvs' : List (κ × V)} {kds kds' : List (κ × D)}, PrK K F kvs kds → PrK K F kvs' kds' → PrK K F (kvs ++ kvs') (kds ++ kds')
  | _, _, _, _, .nil, s => s
  | _, _, _, _, .cons h t, s => .cons h (prk_app t s)
theorem prk_put {k : κ} {v : V} {d : D} (hd : Dp K F v d) {kvs : List (κ × V)} {kds : List (κ × D)} (h : PrK K F kvs kds) : PrK K F (putK kvs k v) (putD kds k d) := by
  unfold putK putD
  rw [prk_any h]
  split
  · exact prk_map hd h
  · exact prk_app h (.cons ⟨rfl, hd⟩ .nil)
end
def keyD : D → Option Key
  | .int i => some (.inl i)
  | .str s => some (.inr s)
  | _ => none
theorem key_dpt {K : PySem.W.Frag} {F H : Hp} {v : V} {d : D} {k : Key} (h : DpT K F H v d) (e : keyD d = some k) : v = kV k := by
  unfold keyD at e
  split at e
  · cases e; exact dpt_int h
  · cases e; exact dpt_str h
  · cases e
def dinE (neg : Bool) (s : Option Slot) (d : Option D) : Option Rv := match s, d with
  | some (.own (.dic kds)), some d => (match keyD d with
    | some k => some (.val (.bool (if neg then !(valD kds k).isSome else (valD kds k).isSome)))
    | none => none)
  | _, _ => none
def retO (o : Option Rv) (E : SEnv) : Res Ret := match o with
  | some rv => .ok rv.ret E
  | none => .no
/-- key in d, key not in d -/
def mDin (neg : Bool) (i : Nat) (mk : M Ret) : M Ret := fun E => (mk E).bind fun r E1 => retO (dinE neg E1[i]? (dat E1 r)) E1
section
variable {K : PySem.W.Frag} {cl : Cl} {W : WX} {C : Ctx} {T T' : List (V × Ret)} {σ : St} {H : Hp} {E : SEnv}
theorem retO_run {P : Ret → SEnv → Prop} {o : Option Rv} (h : Run K cl W C T σ P (retO o E)) : ∃ rv, o = some rv ∧ P rv.ret E := by
  cases o with
  | some rv => exact ⟨rv, rfl, h⟩
  | none => exact h.elim
end
section
variable {X : Cx} {cl : Cl} {W : WX} {e o : Expr} {pos vpos : Pos} {mk mv : M Ret}
theorem din_of (i : Nat) (neg : Bool) (σ : St) (H : Hp) (Q : VK) (h : tM X.K cl W (mDin neg i mk) σ H Q) : (if neg then tDNotIn (tM X.K cl W mk) (tVar i) σ H Q else tDIn (tM X.K cl W mk) (tVar i) σ H Q) := by
  obtain ⟨C, E, T, R, h⟩ := h
  have key : tM X.K cl W mk σ H fun y H1 => tVar i σ H1 fun x H2 => ∃ a o, x = .ref a ∧ DGet H2 a y o ∧ Q (.bl (if neg then !o.isSome else o.isSome)) H2 := by
    refine ⟨C, E, T, R, (Run.bind h).imp fun r E1 h1 v1 H1 R1 b1 => ?_⟩
    obtain ⟨rv, e1, p⟩ := retO_run h1
    unfold dinE at e1
    split at e1
    · rename_i kds d es ed
      split at e1
      · rename_i k ek
        cases e1
        obtain ⟨F, ρ, RF⟩ := R1
        obtain ⟨w, hw⟩ := slot_there RF es
        obtain ⟨q, rfl, ⟨ho, z2, ⟨kvs, rfl, z3⟩, z4, z5⟩, z6⟩ := RF.sl i _ _ hw es
        have hk := key_dpt (RF.dat (k := T.length) (by simp) b1 ed) ek
        subst hk
        refine ⟨.ref q, hw, q, _, rfl, DGet.k z2, ?_⟩
        have hv : (valV kvs k).isSome = (valD kds k).isSome := by
          rcases prk_val (k := k) z3 with ⟨h1, h2⟩ | ⟨v, d, h1, h2, _⟩
          · rw [h1, h2]; rfl
          · rw [h1, h2]; rfl
        rw [hv]
        exact (gives (T' := [(kV k, r)]) RF p).bool
      · cases e1
    · cases e1
  cases neg with
  | true => exact key
  | false => exact key
theorem den_din (i : Nat) {x : Str} (hu : X.A.units + 1 < cLine) (hk : PE X e (tM X.K cl W mk)) (hN : X.N[i]? = some x := by rfl) (hv : Vis X.env.scope x := by first | exact Or.inl rfl | exact Or.inr (Or.inl rfl) | exact Or.inr (Or.inr rfl)) (hd : (x == ("__debug__" : Str)) = false := by decide) (hcd : (x == ("__classdict__" : Str)) = false := by decide) :
    PE X (.Compare e [.In] [.Name x vpos] pos) (tM X.K cl W (mDin false i mk)) := PE.imp (pe_cmp (pc_din hu hk (pe_var hN hv hd hcd)) rfl) fun σ H Q h => din_of i false σ H Q h
theorem den_dnin (i : Nat) {x : Str} (hu : X.A.units + 1 < cLine) (hk : PE X e (tM X.K cl W mk)) (hN : X.N[i]? = some x := by rfl) (hv : Vis X.env.scope x := by first | exact Or.inl rfl | exact Or.inr (Or.inl rfl) | exact Or.inr (Or.inr rfl)) (hd : (x == ("__debug__" : Str)) = false := by decide) (hcd : (x == ("__classdict__" : Str)) = false := by decide) :
    PE X (.Compare e [.NotIn] [.Name x vpos] pos) (tM X.K cl W (mDin true i mk)) := PE.imp (pe_cmp (pc_dnotin hu hk (pe_var hN hv hd hcd)) rfl) fun σ H Q h => din_of i true σ H Q h
/-- a comparison by its value, as a test -/
theorem pt_ofC {op : CmpOp} {a b : Expr} {t : TE} {m : M Ret} (h : PC X op a b t) (i : ∀ σ H Q, tM X.K cl W m σ H Q → t σ H Q) (h1 : behindInMarks op b = false) : PT X (.Compare a [op] [b] pos) (tMT X.K cl W (mBl m)) := PT.imp (pt_cmp h h1) fun σ H Q hh => by
  obtain ⟨C, E, T, R, hh⟩ := hh
  have h2 := bl_run hh
  exact i σ H _ ⟨C, E, T, R, h2.imp fun r1 E1 ⟨k, e1, h1⟩ v1 H1 R1 b1 => ⟨k, dat_bl R1 b1 e1, h1 H1 R1.drop⟩⟩
theorem den_dint (i : Nat) {x : Str} (hu : X.A.units + 1 < cLine) (hk : PE X e (tM X.K cl W mk)) (hN : X.N[i]? = some x := by rfl) (hv : Vis X.env.scope x := by first | exact Or.inl rfl | exact Or.inr (Or.inl rfl) | exact Or.inr (Or.inr rfl)) (hd : (x == ("__debug__" : Str)) = false := by decide) (hcd : (x == ("__classdict__" : Str)) = false := by decide) :
    PT X (.Compare e [.In] [.Name x vpos] pos) (tMT X.K cl W (mBl (mDin false i mk))) := pt_ofC (pc_din hu hk (pe_var hN hv hd hcd)) (fun σ H Q h => din_of i false σ H Q h) rfl
theorem den_dnint (i : Nat) {x : Str} (hu : X.A.units + 1 < cLine) (hk : PE X e (tM X.K cl W mk)) (hN : X.N[i]? = some x := by rfl) (hv : Vis X.env.scope x := by first | exact Or.inl rfl | exact Or.inr (Or.inl rfl) | exact Or.inr (Or.inr rfl)) (hd : (x == ("__debug__" : Str)) = false := by decide) (hcd : (x == ("__classdict__" : Str)) = false := by decide) :
    PT X (.Compare e [.NotIn] [.Name x vpos] pos) (tMT X.K cl W (mBl (mDin true i mk))) := pt_ofC (pc_dnotin hu hk (pe_var hN hv hd hcd)) (fun σ H Q h => din_of i true σ H Q h) rfl
end
def isDic (s : Option Slot) : Bool := match s with
  | some (.own (.dic _)) => true
  | _ => false
theorem isDic_at {s : Option Slot} (h : isDic s = true) : ∃ kds, s = some (.own (.dic kds)) := by
  unfold isDic at h
  split at h
  · exact ⟨_, rfl⟩
  · cases h
/-- d[key] -/
def dgetE (s : Option Slot) (d : Option D) : Option Rv := match s, d with
  | some (.own (.dic kds)), some d => (match keyD d with
    | some k => (valD kds k).map Rv.val
    | none => none)
  | _, _ => none
def mDget (i : Nat) (mk : M Ret) : M Ret := fun E => if isDic E[i]? = true then (mk E).bind fun r E1 => retO (dgetE E1[i]? (dat E1 r)) E1 else .no
noncomputable def dputE (i : Nat) (rk rv : Ret) (E : SEnv) : Option SEnv := match dat E rk, take E rv with
  | some d, some (y, E1) => (match keyD d, E1[i]? with
    | some k, some (.own (.dic kds)) => if Ok (kds.length < big) then some (E1.set i (.own (.dic (putD kds k y)))) else none
    | _, _ => none)
  | _, _ => none
/-- d[key] = value -/
noncomputable def mDput (i : Nat) (mk mv : M Ret) : M Fl := fun E => (mv E).bind fun rv E1 => if isDic E1[i]? = true then (mk E1).bind fun rk E2 => (match dputE i rk rv E2 with
  | some E3 => .ok .nx E3
  | none => .no) else .no
section
variable {X : Cx} {cl : Cl} {W : WX} {e v : Expr} {pos vpos spos : Pos} {mk mv : M Ret}
theorem den_dget (i : Nat) {x : Str} (hu : X.A.units + 1 < cLine) (hk : PE X e (tM X.K cl W mk)) (hs : NoSl e := by first | exact fun _ _ => rfl | rfl | trivial) (hN : X.N[i]? = some x := by rfl) (hv : Vis X.env.scope x := by first | exact Or.inl rfl | exact Or.inr (Or.inl rfl) | exact Or.inr (Or.inr rfl)) (hd : (x == ("__debug__" : Str)) = false := by decide) (hcd : (x == ("__classdict__" : Str)) = false := by decide) :
    PE X (.Subscript (.Name x vpos) e pos) (tM X.K cl W (mDget i mk)) := PE.imp (pe_dget hu (pe_var hN hv hd hcd) hk hs) fun σ H Q h => by
  obtain ⟨C, E, T, R, h⟩ := h
  unfold mDget at h
  split at h
  case isFalse => exact h.elim
  rename_i hg
  obtain ⟨kds0, e0⟩ := isDic_at hg
  obtain ⟨F0, ρ0, RF0⟩ := _root_.id R
  obtain ⟨w, hw⟩ := slot_there RF0 e0
  obtain ⟨q, rfl, _⟩ := RF0.sl i _ _ hw e0
  refine ⟨.ref q, hw, C, E, T, R, (Run.bind h).imp fun r E1 h1 v1 H1 R1 b1 => ?_⟩
  obtain ⟨rv, e1, p⟩ := retO_run h1
  unfold dgetE at e1
  split at e1
  · rename_i kds d es ed
    split at e1
    · rename_i k ek
      obtain ⟨y, ey, rfl⟩ := Option.map_eq_some_iff.mp e1
      obtain ⟨F, ρ, RF⟩ := R1
      obtain ⟨q', eq', ⟨ho, z2, ⟨kvs, rfl, z3⟩, z4, z5⟩, z6⟩ := RF.sl i _ _ hw es
      cases eq'
      have hk := key_dpt (RF.dat (k := T.length) (by simp) b1 ed) ek
      subst hk
      rcases prk_val (k := k) z3 with ⟨g1, g2⟩ | ⟨v, d', g1, g2, g3⟩
      · rw [g2] at ey; cases ey
      · rw [g2] at ey; cases ey
        exact ⟨q, v, rfl, by rw [← g1]; exact DGet.k z2, (gives (T' := [(kV k, r)]) RF p).1 v g3⟩
    · cases e1
  · cases e1
theorem den_dput (i : Nat) {x : Str} (hu : X.A.units + 1 < cLine) (hk : PE X e (tM X.K cl W mk)) (hval : PE X v (tM X.K cl W mv)) (hsw : swapsWith v (some (.Subscript (.Name x vpos) e spos)) pos.line X.env = pure false := by rfl)
    (hN : X.N[i]? = some x := by rfl) (hv : Vis X.env.scope x := by first | exact Or.inl rfl | exact Or.inr (Or.inl rfl) | exact Or.inr (Or.inr rfl)) (hd : (x == ("__debug__" : Str)) = false := by decide) (hcd : (x == ("__classdict__" : Str)) = false := by decide) :
    PS X (.Assign [.Subscript (.Name x vpos) e spos] v pos) (tMS X.K cl W (mDput i mk mv)) := PS.imp (ps_dput hu (pe_var hN hv hd hcd) hk hval hsw) fun D σ H h => by
  obtain ⟨C, E, T, R, h⟩ := h
  refine ⟨C, E, T, R, (RunS.bind h).run fun rv E1 h1 v1 H1 R1 b1 => ?_⟩
  split at h1
  case isFalse => exact h1.elim
  rename_i hg
  obtain ⟨kds0, e0⟩ := isDic_at hg
  obtain ⟨F0, ρ0, RF0⟩ := _root_.id R1
  obtain ⟨w, hw⟩ := slot_there RF0 e0
  obtain ⟨q, rfl, _⟩ := RF0.sl i _ _ hw e0
  refine ⟨.ref q, hw, C, E1, _, R1, ((RunS.bind h1).run (σ := σ) fun rk E2 h2 => h2).go fun rk E2 h2 v2 H2 R2 b2 => ?_⟩
  split at h2
  case h_2 => exact h2.elim
  rename_i E3 e3
  unfold dputE at e3
  split at e3
  case h_2 => cases e3
  rename_i d y E4 ed et
  split at e3
  case h_2 => cases e3
  rename_i k kds ek es
  split at e3
  case isFalse => cases e3
  rename_i hl
  cases e3
  obtain ⟨F, ρ, RF⟩ := R2
  have hk := key_dpt (RF.dat (k := T.length + 1) (v := v2) (r := rk) (by simp) b2 ed) ek
  subst hk
  obtain ⟨F', f', RT, hd⟩ := RelF.take (T := T) (T2 := [(kV k, rk)]) (by simpa using RF) b1 et
  obtain ⟨q', eq', ⟨ho, z2, ⟨kvs, rfl, z3⟩, z4, z5⟩, z6⟩ := RT.sl i _ _ hw es
  cases eq'
  refine ⟨q, _, rfl, DPut.k z2 (by rw [prk_len z3]; exact big_lt (Nat.le_of_lt hl)), ?_⟩
  exact h2 σ _ (RT.drop.mut_own es hw (o' := .dic (putD kds k y)) ⟨_, rfl, prk_put hd z3⟩).rel
end
end MP

namespace MP
open PySem PySem.Spec L2

/-! ### what is never reached -/
theorem den_never {X : Cx} {cl : Cl} {W : WX} {st : Stmt} : PS X st (tMS X.K cl W mNever) := ⟨fun pins s σ H D I h => by
  obtain ⟨C, E, T, R, h⟩ := h
  exact h.elim⟩
/-- where nothing may be let out -/
theorem takes0 {X : Cx} : Takes X W0 := fun u s' ⟨a, B, sI, pins, σ, H, cls, d, e, I, nb, up, sky, na, os, ag, w⟩ => False.elim w

/-! ### the law's own end -/
def cl0 : Cl := ⟨fun _ => (0 : Nat), [], none⟩
theorem sql_noT {K : PySem.W.Frag} {T : List (Addr × Str)} {H : Hp} {a : Addr} {xs : List V} (t : LamX.Tabs T H) (h : SqL K H a xs) : SqL K (noT T H) a xs := by
  rcases h with (h | ⟨o, h⟩) | h
  · exact .inl (.inl ((noT_at (noT_no t h fun _ z => by cases z)).trans h))
  · exact .inl (.inr ⟨o, (noT_at (noT_no t h fun _ z => by cases z)).trans h⟩)
  · exact .inr h
theorem tok_noT {T : List (Addr × Str)} {H : Hp} (t : LamX.Tabs T H) : TOk T (noT T H) H := ⟨t, fun p hp => if_pos hp⟩
theorem tabs_nil {H : Hp} : LamX.Tabs [] H := fun _ h => nomatch h
theorem end_sp {K : PySem.W.Frag} {cl : Cl} {g : List D → FR} {H : Hp} {a : Addr} {ns : List Int} {Ex : XK} (t : LamX.Tabs cl.T H) (h : SqL K H a (ns.map V.int)) (hg : g [.list (ns.map PyData.int)] = .ok (.val (.bool true))) :
    spM K cl g [.ref a] H (fun v _ => v = .bl true) Ex := by
  refine ⟨noT cl.T H, [.list (ns.map PyData.int)], tok_noT t, noT_sub, .cons (.lst (sql_noT t h) (dps_of_ints ns)) .nil, ?_⟩
  rw [hg]
  intro v H' F' h1 h2 h3 h4 hv
  cases (show Dp K F' v (.bool true) from hv)
  rfl
theorem end_cx {P : Program} {w : World} {H : Hp} {s : Shared} {e : Value} {s' : Shared} (h : L2.CX P w [] H s (fun _ _ _ => False) e s') : False := by
  unfold L2.CX at h
  obtain ⟨a, B, H', cls, d, _, _, _, _, _, _, _, h⟩ := h
  exact h
end MP

namespace MP
open PySem PySem.Spec L2

/-! ## plain laws of the terms: what they do on given slots -/
section
variable (E : SEnv)
@[simp] theorem e_var (i : Nat) : mVar i E = match E[i]? with
  | some .un => .no
  | some _ => .ok (.bor i) E
  | none => .no := rfl
@[simp] theorem e_d (d : D) : mD d E = .ok (.val d) E := rfl
@[simp] theorem e_m2 (f : D → D → Option Rv) (a b : M Ret) : m2 f a b E = (a E).bind fun r1 E1 => (b E1).bind fun r2 E2 => op2 f E2 r1 r2 := rfl
@[simp] theorem e_m1 (f : D → Option Rv) (a : M Ret) : m1 f a E = (a E).bind fun r1 E1 => op1 f E1 r1 := rfl
@[simp] theorem e_mN (f : List D → Option Rv) (as : M (List Ret)) : mN f as E = (as E).bind fun rs E1 => opN f E1 rs := rfl
@[simp] theorem e_A0 : mA0 E = .ok [] E := rfl
@[simp] theorem e_A1 (a : M Ret) (as : M (List Ret)) : mA1 a as E = (a E).bind fun r E1 => (as E1).bind fun rs E2 => .ok (r :: rs) E2 := rfl
@[simp] theorem e_op2 (f : D → D → Option Rv) (r1 r2 : Ret) : op2 f E r1 r2 = match dat E r1, dat E r2 with
  | some a, some b => (match f a b with
    | some rv => .ok rv.ret E
    | none => .no)
  | _, _ => .no := rfl
@[simp] theorem e_op1 (f : D → Option Rv) (r1 : Ret) : op1 f E r1 = match dat E r1 with
  | some a => (match f a with
    | some rv => .ok rv.ret E
    | none => .no)
  | _ => .no := rfl
@[simp] theorem e_opN (f : List D → Option Rv) (rs : List Ret) : opN f E rs = match dats E rs with
  | some ds => (match f ds with
    | some rv => .ok rv.ret E
    | none => .no)
  | _ => .no := rfl
@[simp] theorem e_mMul (a b : M Ret) : mMul a b E = (a E).bind fun r1 E1 => (b E1).bind fun r2 E2 => match r1, dat E2 r2 with
  | .own (.lst xs), some (.int k) => if Ok (smallI k = true ∧ xs.length * k.toNat ≤ big) then .ok (.own (.lst (List.replicate k.toNat xs).flatten)) E2 else .no
  | _, _ => op2 mulF E2 r1 r2 := rfl
@[simp] theorem e_dat_val (d : D) : dat E (.val d) = some d := rfl
@[simp] theorem e_dat_own (ds : List D) : dat E (.own (.lst ds)) = some (.list ds) := rfl
@[simp] theorem e_dat_bor (i : Nat) : dat E (.bor i) = (E[i]?).bind Slot.dat := rfl
@[simp] theorem e_sdat_val (d : D) : (Slot.val d).dat = some d := rfl
@[simp] theorem e_sdat_own (ds : List D) : (Slot.own (.lst ds)).dat = some (.list ds) := rfl
@[simp] theorem e_sdat_lnt (ds : List D) : (Slot.lnt (.lst ds)).dat = some (.list ds) := rfl
@[simp] theorem e_sdat_lck (ds : List D) : (Slot.lck (.lst ds)).dat = some (.list ds) := rfl
@[simp] theorem e_dats0 : dats E [] = some [] := rfl
@[simp] theorem e_dats1 (r : Ret) (rs : List Ret) : dats E (r :: rs) = match dat E r, dats E rs with
    | some d, some ds => some (d :: ds)
    | _, _ => none := rfl
@[simp] theorem e_take_val (d : D) : take E (.val d) = some (d, E) := rfl
@[simp] theorem e_take_own (ds : List D) : take E (.own (.lst ds)) = some (.list ds, E) := rfl
@[simp] theorem e_take_bor (i : Nat) : take E (.bor i) = match E[i]? with
    | some (.val d) => some (d, E)
    | some (.own (.lst ds)) => some (.list ds, E.set i (.val (.list ds)))
    | _ => none := rfl
@[simp] theorem e_takes0 : takes E [] = some ([], E) := rfl
@[simp] theorem e_takes1 (r : Ret) (rs : List Ret) : takes E (r :: rs) = match take E r with
    | some (d, E1) => (match takes E1 rs with
      | some (ds, E2) => some (d :: ds, E2)
      | none => none)
    | none => none := rfl
@[simp] theorem e_keep (f : List D → Option Rv) (as : M (List Ret)) : mKeep f as E = (as E).bind fun rs E1 => match takes E1 rs with
  | some (ds, E2) => (match f ds with
    | some rv => .ok rv.ret E2
    | none => .no)
  | none => .no := rfl
@[simp] theorem e_tup (as : M (List Ret)) : mTup as E = mKeep tupF as E := rfl
@[simp] theorem e_lst (as : M (List Ret)) : mLst as E = mKeep lstF as E := rfl
@[simp] theorem e_retv (d : D) : Rv.ret (.val d) = .val d := rfl
@[simp] theorem e_reto (o : MO) : Rv.ret (.own o) = .own o := rfl
@[simp] theorem e_tru (m : M Ret) : mTru m E = (m E).bind fun r E1 => match dat E1 r with
  | some d => (match truD d with
    | some b => .ok b E1
    | none => .no)
  | none => .no := rfl
@[simp] theorem e_bl (m : M Ret) : mBl m E = (m E).bind fun r E1 => match dat E1 r with
  | some (.bool b) => .ok b E1
  | _ => .no := rfl
@[simp] theorem e_and (a b : M Bool) : mAnd a b E = (a E).bind fun c E1 => if c = true then b E1 else .ok false E1 := rfl
@[simp] theorem e_or (a b : M Bool) : mOr a b E = (a E).bind fun c E1 => if c = true then .ok true E1 else b E1 := rfl
@[simp] theorem e_not (a : M Bool) : mNot a E = (a E).bind fun c E1 => .ok (!c) E1 := rfl
@[simp] theorem e_andV (a b : M Ret) : mAndV a b E = (mBl a E).bind fun c E1 => if c = true then b E1 else .ok (.val (.bool false)) E1 := rfl
@[simp] theorem e_orV (a b : M Ret) : mOrV a b E = (mBl a E).bind fun c E1 => if c = true then .ok (.val (.bool true)) E1 else b E1 := rfl
@[simp] theorem e_notV (a : M Ret) : mNotV a E = (mBl a E).bind fun c E1 => .ok (.val (.bool (!c))) E1 := rfl
@[simp] theorem e_ifE (c : M Bool) (a b : M Ret) : mIfE c a b E = (c E).bind fun k E1 => if k = true then a E1 else b E1 := rfl
@[simp] theorem e_nx : mNx E = .ok .nx E := rfl
@[simp] theorem e_seq (a b : M Fl) : mSeq a b E = (a E).bind fun f E1 => match f with
  | .nx => b E1
  | f => .ok f E1 := rfl
@[simp] theorem e_exp (a : M Ret) : mExp a E = (a E).bind fun _ E1 => .ok .nx E1 := rfl
@[simp] theorem e_to (g : Ret → SEnv → Option SEnv) (a : M Ret) : mTo g a E = (a E).bind fun r E1 => match g r E1 with
  | some E2 => .ok .nx E2
  | none => .no := rfl
@[simp] theorem e_set (i : Nat) (a : M Ret) : mSet i a E = mTo (mStore i) a E := rfl
@[simp] theorem e_if (c : M Bool) (a b : M Fl) : mIf c a b E = (c E).bind fun k E1 => if k = true then a E1 else b E1 := rfl
@[simp] theorem e_ret (a : M Ret) : mRet a E = (a E).bind fun r E1 => .ok (.rt r) E1 := rfl
@[simp] theorem e_retN : mRetN E = .ok (.rt (.val .none)) E := rfl
@[simp] theorem e_brk : mBrk E = .ok .bk E := rfl
@[simp] theorem e_cnt : mCnt E = .ok .ct E := rfl
@[simp] theorem e_store (i : Nat) (r : Ret) : mStore i r E = match E[i]? with
  | none => none
  | some s => if s.free then (match r with
    | .own o => some (E.set i (.own o))
    | .val d => some (E.set i (.val d))
    | .bor j => (match E[j]? with
      | some (.val d) => some (E.set i (.val d))
      | some (.exc x) => some (E.set i (.exc x))
      | some (.own (.lst ds)) => some ((E.set j (.val (.list ds))).set i (.val (.list ds)))
      | _ => none)) else none := rfl
@[simp] theorem e_free_un : Slot.free .un = true := rfl
@[simp] theorem e_free_val (d : D) : Slot.free (.val d) = true := rfl
@[simp] theorem e_free_own (o : MO) : Slot.free (.own o) = true := rfl
@[simp] theorem e_free_exc (o : Exn) : Slot.free (.exc o) = true := rfl
@[simp] theorem e_free_lnt (o : MO) : Slot.free (.lnt o) = false := rfl
@[simp] theorem e_free_lck (o : MO) : Slot.free (.lck o) = false := rfl
@[simp] theorem e_it (m : M Ret) : mIt m E = (m E).bind fun r E1 => match r with
  | .val (.list ds) => .ok (ds, none) E1
  | .val (.tuple ds) => .ok (ds, none) E1
  | .own (.lst ds) => .ok (ds, none) E1
  | .bor j => (match E1[j]? with
    | some (.val (.list ds)) => .ok (ds, none) E1
    | some (.val (.tuple ds)) => .ok (ds, none) E1
    | some (.own (.lst ds)) => .ok (ds, some j) E1
    | _ => .no)
  | _ => .no := rfl
@[simp] theorem e_rng (f : List D → Option (List D)) (ms : M (List Ret)) : mRng f ms E = (ms E).bind fun rs E1 => match dats E1 rs with
  | some ds => (match f ds with
    | some its => .ok (its, none) E1
    | none => .no)
  | none => .no := rfl
@[simp] theorem e_call (g : List D → FR) (ms : M (List Ret)) : mCall g ms E = (ms E).bind fun rs E1 => match dats E1 rs with
  | none => .no
  | some ds => (match g ds with
    | .no => .no
    | .ex x => .ex x E1
    | .ok v => if v.pure = true then .ok v.ret E1 else (match takes E1 rs with
      | some (_, E2) => .ok v.ret E2
      | none => .no)) := rfl
@[simp] theorem e_guardL (i : Nat) (m : M Ret) : guardL i m E = if isLst E i = true then m E else .no := rfl
@[simp] theorem e_isLst (i : Nat) : isLst E i = match E[i]? with
  | some (.own (.lst _)) => true
  | some (.lnt (.lst _)) => true
  | _ => false := rfl
@[simp] theorem e_mMut (i : Nat) (f : MF) (as : M (List Ret)) : mMut i f as E = (as E).bind fun rs E1 => match takes E1 rs with
  | some (ds, E2) => putM i E2 E2[i]? ds f
  | none => .no := rfl
@[simp] theorem e_mMutB (i : Nat) (f : MF) (as : M (List Ret)) : mMutB i f as E = (as E).bind fun rs E1 => match dats E1 rs with
  | some ds => putM i E1 E1[i]? ds f
  | none => .no := rfl
@[simp] theorem e_putM (i : Nat) (ls as : List D) (f : MF) : putM i E (some (.own (.lst ls))) as f = match f ls as with
    | some (ls', d) => .ok (.val d) (E.set i (.own (.lst ls')))
    | none => .no := rfl
@[simp] theorem e_putMl (i : Nat) (ls as : List D) (f : MF) : putM i E (some (.lnt (.lst ls))) as f = match f ls as with
    | some (ls', d) => .ok (.val d) (E.set i (.lnt (.lst ls')))
    | none => .no := rfl
@[simp] theorem e_retO1 (rv : Rv) : retO (some rv) E = .ok rv.ret E := rfl
@[simp] theorem e_retO0 : retO none E = .no := rfl
@[simp] theorem e_din (neg : Bool) (i : Nat) (mk : M Ret) : mDin neg i mk E = (mk E).bind fun r E1 => retO (dinE neg E1[i]? (dat E1 r)) E1 := rfl
@[simp] theorem e_dget (i : Nat) (mk : M Ret) : mDget i mk E = if isDic E[i]? = true then (mk E).bind fun r E1 => retO (dgetE E1[i]? (dat E1 r)) E1 else .no := rfl
@[simp] theorem e_dput (i : Nat) (mk mv : M Ret) : mDput i mk mv E = (mv E).bind fun rv E1 => if isDic E1[i]? = true then (mk E1).bind fun rk E2 => (match dputE i rk rv E2 with
  | some E3 => .ok .nx E3
  | none => .no) else .no := rfl
@[simp] theorem e_isDic (kds : List (Key × D)) : isDic (some (.own (.dic kds))) = true := rfl
@[simp] theorem e_dputE (i : Nat) (rk rv : Ret) : dputE i rk rv E = match dat E rk, take E rv with
  | some d, some (y, E1) => (match keyD d, E1[i]? with
    | some k, some (.own (.dic kds)) => if Ok (kds.length < big) then some (E1.set i (.own (.dic (putD kds k y)))) else none
    | _, _ => none)
  | _, _ => none := rfl
@[simp] theorem e_keyI (i : Int) : keyD (.int i) = some (.inl i) := rfl
@[simp] theorem e_keyS (i : Str) : keyD (.str i) = some (.inr i) := rfl
@[simp] theorem e_dinE (neg : Bool) (kds : List (Key × D)) (d : D) : dinE neg (some (.own (.dic kds))) (some d) = match keyD d with
    | some k => some (.val (.bool (if neg then !(valD kds k).isSome else (valD kds k).isSome)))
    | none => none := rfl
@[simp] theorem e_gs0 (ds : List D) : gs0 ds E = match ds with
  | [] => some E
  | _ => none := rfl
@[simp] theorem e_gs1 (g : MG) (gs : List D → SEnv → Option SEnv) (ds : List D) : gs1 g gs ds E = match ds with
  | d :: ds => (match g (.val d) E with
    | some E1 => gs ds E1
    | none => none)
  | [] => none := rfl
@[simp] theorem e_gTup (n : Nat) (gs : List D → SEnv → Option SEnv) (r : Ret) : gTupF n gs r E = match dat E r with
  | some (.tuple ds) => if ds.length = n then gs ds E else none
  | _ => none := rfl
@[simp] theorem e_conv_val (d : D) : conv E (.val d) = .ok (.val d) := rfl
@[simp] theorem e_conv_own (o : MO) : conv E (.own o) = .ok (.own o) := rfl
@[simp] theorem e_conv_bor (i : Nat) : conv E (.bor i) = match E[i]? with
    | some (.val d) => .ok (.val d)
    | some (.own o) => .ok (.own o)
    | _ => .no := rfl
end
@[simp] theorem e_pure_val (d : D) : Rv.pure (.val d) = pureD d := rfl
@[simp] theorem e_pure_own (ds : List D) : Rv.pure (.own (.lst ds)) = pureAll ds := rfl
@[simp] theorem p_none : pureD .none = true := by simp [pureD]
@[simp] theorem p_bool (b : Bool) : pureD (.bool b) = true := by simp [pureD]
@[simp] theorem p_int (b : Int) : pureD (.int b) = true := by simp [pureD]
@[simp] theorem p_str (b : Str) : pureD (.str b) = true := by simp [pureD]
@[simp] theorem p_list (b : List D) : pureD (.list b) = false := by simp [pureD]
@[simp] theorem p_tup (b : List D) : pureD (.tuple b) = pureAll b := by simp [pureD]
@[simp] theorem p_nil : pureAll [] = true := by simp [pureAll]
@[simp] theorem p_cons (d : D) (ds : List D) : pureAll (d :: ds) = (pureD d && pureAll ds) := by simp [pureAll]
theorem p_map {α : Type} {f : α → D} : ∀ {as : List α}, (∀ a ∈ as, pureD (f a) = true) → pureAll (as.map f) = true
  | [], _ => p_nil
  | a :: as, h => by
    rw [List.map_cons, p_cons, h a List.mem_cons_self, p_map fun b hb => h b (List.mem_cons_of_mem _ hb)]; rfl
@[simp] theorem p_ints (as : List Int) : pureAll (as.map PyData.int) = true := p_map fun _ _ => p_int _
@[simp] theorem p_bools (as : List Bool) : pureAll (as.map PyData.bool) = true := p_map fun _ _ => p_bool _
@[simp] theorem t_none : truD .none = some false := rfl
@[simp] theorem t_bool (b : Bool) : truD (.bool b) = some b := rfl
@[simp] theorem t_int (i : Int) : truD (.int i) = some (i != 0) := rfl
@[simp] theorem t_list (ds : List D) : truD (.list ds) = some (!ds.isEmpty) := rfl
@[simp] theorem t_tuple (ds : List D) : truD (.tuple ds) = some (!ds.isEmpty) := rfl
@[simp] theorem f_addI (i j : Int) : addF (.int i) (.int j) = some (.val (.int (i + j))) := rfl
@[simp] theorem f_subI (i j : Int) : subF (.int i) (.int j) = some (.val (.int (i - j))) := rfl
@[simp] theorem f_mulI (i j : Int) : mulF (.int i) (.int j) = if Ok (mulOk i j) then some (.val (.int (i * j))) else none := rfl
@[simp] theorem f_divI (i j : Int) : divF (.int i) (.int j) = if Ok (0 < j ∧ j.natAbs.log2 < 9000) then some (.val (.int (i / j))) else none := rfl
@[simp] theorem f_modI (i j : Int) : modF (.int i) (.int j) = if Ok (0 < j) then some (.val (.int (i % j))) else none := rfl
@[simp] theorem f_negI (i : Int) : negF (.int i) = some (.val (.int (-i))) := rfl
@[simp] theorem f_addL (a b : List D) : addF (.list a) (.list b) = if Ok (a.length + b.length ≤ big) then some (.own (.lst (a ++ b))) else none := rfl
@[simp] theorem f_eqI (i j : Int) : eqF (.int i) (.int j) = some (.val (.bool (decide (i = j)))) := rfl
@[simp] theorem f_neI (i j : Int) : neF (.int i) (.int j) = some (.val (.bool (!decide (i = j)))) := rfl
@[simp] theorem f_ltI (i j : Int) : ltF (.int i) (.int j) = some (.val (.bool (decide (i < j)))) := rfl
@[simp] theorem f_leI (i j : Int) : leF (.int i) (.int j) = some (.val (.bool (decide (i ≤ j)))) := rfl
@[simp] theorem f_gtI (i j : Int) : gtF (.int i) (.int j) = some (.val (.bool (decide (j < i)))) := rfl
@[simp] theorem f_geI (i j : Int) : geF (.int i) (.int j) = some (.val (.bool (decide (j ≤ i)))) := rfl
@[simp] theorem f_ixL (ds : List D) (i : Int) : ixF (.list ds) (.int i) = (atI ds i).map Rv.val := rfl
@[simp] theorem f_ixT (ds : List D) (i : Int) : ixF (.tuple ds) (.int i) = (atI ds i).map Rv.val := rfl
@[simp] theorem f_lenL (ds : List D) : lenF [.list ds] = some (.val (.int ds.length)) := rfl
@[simp] theorem f_lenT (ds : List D) : lenF [.tuple ds] = some (.val (.int ds.length)) := rfl
@[simp] theorem f_listL (ds : List D) : listF [.list ds] = some (.own (.lst ds)) := rfl
@[simp] theorem f_listT (ds : List D) : listF [.tuple ds] = some (.own (.lst ds)) := rfl
@[simp] theorem f_tupL (ds : List D) : tupleF [.list ds] = some (.val (.tuple ds)) := rfl
@[simp] theorem f_tupT (ds : List D) : tupleF [.tuple ds] = some (.val (.tuple ds)) := rfl
@[simp] theorem f_abs (i : Int) : absF [.int i] = some (.val (.int (if i < 0 then -i else i))) := rfl
@[simp] theorem f_intI (i : Int) : intF [.int i] = some (.val (.int i)) := rfl
@[simp] theorem f_intB (k : Bool) : intF [.bool k] = some (.val (.int (if k then 1 else 0))) := rfl
@[simp] theorem f_max2 (i j : Int) : max2F [.int i, .int j] = some (.val (.int (if j > i then j else i))) := rfl
@[simp] theorem f_min2 (i j : Int) : min2F [.int i, .int j] = some (.val (.int (if j < i then j else i))) := rfl
@[simp] theorem f_sortedL (is : List Int) : sortedF [.list (is.map PyData.int)] = some (.own (.lst ((sortI is).map PyData.int))) := by simp [sortedF, onInts]
@[simp] theorem f_sortedT (is : List Int) : sortedF [.tuple (is.map PyData.int)] = some (.own (.lst ((sortI is).map PyData.int))) := by simp [sortedF, onInts]
@[simp] theorem f_sumL (is : List Int) : sumF [.list (is.map PyData.int)] = some (.val (.int is.sum)) := by simp [sumF, onIntsL]
@[simp] theorem f_anyL (is : List Bool) : anyF [.list (is.map PyData.bool)] = some (.val (.bool (is.any id))) := by simp [anyF, onBlsL]
@[simp] theorem f_allL (is : List Bool) : allF [.list (is.map PyData.bool)] = some (.val (.bool (is.all id))) := by simp [allF, onBlsL]
theorem f_minL {is : List Int} (h : is ≠ []) : minF [.list (is.map PyData.int)] = some (.val (.int (minI is))) := by simp [minF, onInts, h]
theorem f_minT {is : List Int} (h : is ≠ []) : minF [.tuple (is.map PyData.int)] = some (.val (.int (minI is))) := by simp [minF, onInts, h]
theorem f_maxL {is : List Int} (h : is ≠ []) : maxF [.list (is.map PyData.int)] = some (.val (.int (maxI is))) := by simp [maxF, onInts, h]
theorem f_maxT {is : List Int} (h : is ≠ []) : maxF [.tuple (is.map PyData.int)] = some (.val (.int (maxI is))) := by simp [maxF, onInts, h]
@[simp] theorem f_isi (t : Ty) (d : D) : isiF t d = match d with
  | .dict _ => none
  | d => some (.val (.bool (isiB t d))) := rfl
@[simp] theorem i_int (i : Int) : isiB .int (.int i) = true := rfl
@[simp] theorem i_boolI (i : Int) : isiB .bool (.int i) = false := rfl
@[simp] theorem i_list (ds : List D) : isiB .list (.list ds) = true := rfl
@[simp] theorem i_tuple (ds : List D) : isiB .tuple (.tuple ds) = true := rfl
@[simp] theorem i_bool (i : Bool) : isiB .bool (.bool i) = true := rfl
theorem smallR_n {n : Nat} (h : n ≤ 1000000) : smallR 0 (n : Int) = true := by unfold smallR; simp; omega
theorem smallI_n {n : Nat} (h : n ≤ 1000000) : smallI (n : Int) = true := by unfold smallI; simp; omega
theorem smallI_i {i : Int} (h : -1000000 ≤ i) (h2 : i ≤ 1000000) : smallI i = true := by unfold smallI; simp; omega
theorem f_rng1 {n : Nat} (h : n ≤ 1000000) : rng1F [.int (n : Int)] = some (rangeD 0 n) := by
  show (if Ok (smallI (n : Int) = true) then some (rangeD 0 (n : Int)) else none) = _
  rw [ok_pos (smallI_n h)]
theorem rangeD_n (n : Nat) : rangeD 0 (n : Int) = (List.range n).map fun (i : Nat) => PyData.int (i : Int) := by
  unfold rangeD
  simp
theorem f_rng2 {i j : Int} (h1 : -1000000 ≤ i) (h2 : i ≤ 1000000) (h3 : -1000000 ≤ j) (h4 : j ≤ 1000000) : rng2F [.int i, .int j] = some (rangeD i j) := by
  show (if Ok ((smallI i && smallI j) = true) then some (rangeD i j) else none) = _
  rw [ok_pos (by rw [smallI_i h1 h2, smallI_i h3 h4]; rfl)]
theorem f_lrg1 {n : Nat} (h : n ≤ 1000000) : lrg1F (.int (n : Int)) = some (.own (.lst (rangeD 0 n))) := by
  show (if Ok (smallR 0 (n : Int) = true) then some (Rv.own (.lst (rangeD 0 (n : Int)))) else none) = _
  rw [ok_pos (smallR_n h)]
theorem f_trg1 {n : Nat} (h : n ≤ 1000000) : trg1F (.int (n : Int)) = some (.val (.tuple (rangeD 0 n))) := by
  show (if Ok (smallR 0 (n : Int) = true) then some (Rv.val (.tuple (rangeD 0 (n : Int)))) else none) = _
  rw [ok_pos (smallR_n h)]
@[simp] theorem mulOk_small {i j : Int} (h : -(2 ^ 64) < j ∧ j < 2 ^ 64) : mulOk i j := .inr (.inl h)

/-! ### places -/
theorem atI_map {α β : Type} (f : α → β) (as : List α) (i : Int) : atI (as.map f) i = (atI as i).map f := by
  unfold atI
  rw [List.length_map]
  cases ixN as.length i with
  | none => rfl
  | some j => simp
theorem atI_get' {α : Type} {as : List α} {j : Nat} (h : j < as.length) : atI as (j : Int) = some as[j] := by
  unfold atI ixN
  rw [if_pos (Int.natCast_nonneg j), if_pos (by omega)]
  simp
theorem atI_last' {α : Type} {as : List α} (h : as ≠ []) : atI as (-1) = some (as.getLast h) := by
  have hl := List.length_pos_iff.mpr h
  unfold atI ixN
  rw [if_neg (by omega), if_pos (by omega)]
  have : (-1 + (as.length : Int)).toNat = as.length - 1 := by omega
  rw [this]
  simp [List.getLast_eq_getElem]

/-! ### equality -/
structure Lay {α : Type} [DecidableEq α] (f : α → D) (k : Nat) : Prop where
  lay : ∀ x, (f x).canLay0 = true
  dep : ∀ x, (f x).depth ≤ k
  eq : ∀ x y, PyData.eqv (f x) (f y) = decide (x = y)
theorem Lay.int : Lay PyData.int 0 := ⟨fun _ => rfl, fun _ => Nat.le_refl _, fun x y => by
  rw [show PyData.eqv (.int x) (.int y) = (x == y) by unfold PyData.eqv; rfl]
  rfl⟩
theorem Lay.bool : Lay PyData.bool 0 := ⟨fun _ => rfl, fun _ => Nat.le_refl _, fun x y => by
  rw [show PyData.eqv (.bool x) (.bool y) = (x == y) by unfold PyData.eqv; rfl]
  cases x <;> cases y <;> rfl⟩
section
variable {α : Type} [DecidableEq α] {f : α → D} {k : Nat}
theorem Lay.all (L : Lay f k) : ∀ as : List α, PyData.canLayAll0 (as.map f) = true ∧ PyData.depthAll (as.map f) ≤ k
  | [] => ⟨rfl, Nat.zero_le _⟩
  | a :: as => by
    obtain ⟨h1, h2⟩ := L.all as
    rw [List.map_cons]
    refine ⟨?_, ?_⟩
    · show ((f a).canLay0 && PyData.canLayAll0 (as.map f)) = true
      rw [L.lay a, h1]; rfl
    · show max (f a).depth (PyData.depthAll (as.map f)) ≤ k
      exact Nat.max_le.mpr ⟨L.dep a, h2⟩
theorem Lay.eqs (L : Lay f k) : ∀ as bs : List α, PyData.eqvAll (as.map f) (bs.map f) = decide (as = bs)
  | [], [] => by simp [PyData.eqvAll]
  | [], b :: bs => by simp [PyData.eqvAll]
  | a :: as, [] => by simp [PyData.eqvAll]
  | a :: as, b :: bs => by
    rw [List.map_cons, List.map_cons, PyData.eqvAll, L.eq, L.eqs as bs]
    by_cases h1 : a = b
    · by_cases h2 : as = bs
      · simp [h1, h2]
      · simp [h1, h2]
    · simp [h1]
theorem Lay.list (L : Lay f k) : Lay (fun as : List α => PyData.list (as.map f)) (k + 1) := ⟨fun as => (L.all as).1, fun as => Nat.succ_le_succ (L.all as).2, fun as bs => by rw [PyData.eqv]; exact L.eqs as bs⟩
theorem Lay.tuple (L : Lay f k) : Lay (fun as : List α => PyData.tuple (as.map f)) (k + 1) := ⟨fun as => (L.all as).1, fun as => Nat.succ_le_succ (L.all as).2, fun as bs => by rw [PyData.eqv]; exact L.eqs as bs⟩
theorem Lay.shaped (L : Lay f k) (hk : k ≤ 64) (x : α) : SeqAt.shaped (f x) = true := by
  unfold SeqAt.shaped
  rw [L.lay x, decide_eq_true (Nat.le_trans (L.dep x) hk)]; rfl
theorem eq_list (L : Lay f k) (hk : k < 64) (as bs : List α) : eqF (.list (as.map f)) (.list (bs.map f)) = some (.val (.bool (decide (as = bs)))) := by
  show (if Ok (SeqAt.shaped _ = true ∧ SeqAt.shaped _ = true) then _ else _) = _
  rw [ok_pos ⟨L.list.shaped hk as, L.list.shaped hk bs⟩, L.list.eq]
theorem ne_list (L : Lay f k) (hk : k < 64) (as bs : List α) : neF (.list (as.map f)) (.list (bs.map f)) = some (.val (.bool (!decide (as = bs)))) := by
  show (if Ok (SeqAt.shaped _ = true ∧ SeqAt.shaped _ = true) then _ else _) = _
  rw [ok_pos ⟨L.list.shaped hk as, L.list.shaped hk bs⟩, L.list.eq]
theorem eq_tuple (L : Lay f k) (hk : k < 64) (as bs : List α) : eqF (.tuple (as.map f)) (.tuple (bs.map f)) = some (.val (.bool (decide (as = bs)))) := by
  show (if Ok (SeqAt.shaped _ = true ∧ SeqAt.shaped _ = true) then _ else _) = _
  rw [ok_pos ⟨L.tuple.shaped hk as, L.tuple.shaped hk bs⟩, L.tuple.eq]
theorem ne_tuple (L : Lay f k) (hk : k < 64) (as bs : List α) : neF (.tuple (as.map f)) (.tuple (bs.map f)) = some (.val (.bool (!decide (as = bs)))) := by
  show (if Ok (SeqAt.shaped _ = true ∧ SeqAt.shaped _ = true) then _ else _) = _
  rw [ok_pos ⟨L.tuple.shaped hk as, L.tuple.shaped hk bs⟩, L.tuple.eq]
end
@[simp] theorem f_eqLI (as bs : List Int) : eqF (.list (as.map PyData.int)) (.list (bs.map PyData.int)) = some (.val (.bool (decide (as = bs)))) := eq_list Lay.int (by decide) as bs
@[simp] theorem f_neLI (as bs : List Int) : neF (.list (as.map PyData.int)) (.list (bs.map PyData.int)) = some (.val (.bool (!decide (as = bs)))) := ne_list Lay.int (by decide) as bs
@[simp] theorem f_eqTI (as bs : List Int) : eqF (.tuple (as.map PyData.int)) (.tuple (bs.map PyData.int)) = some (.val (.bool (decide (as = bs)))) := eq_tuple Lay.int (by decide) as bs
@[simp] theorem f_neTI (as bs : List Int) : neF (.tuple (as.map PyData.int)) (.tuple (bs.map PyData.int)) = some (.val (.bool (!decide (as = bs)))) := ne_tuple Lay.int (by decide) as bs
@[simp] theorem f_eqT0 (as : List Int) : eqF (.tuple (as.map PyData.int)) (.tuple []) = some (.val (.bool (decide (as = [])))) := f_eqTI as []

/-! ### loops -/
section
variable {g : MG} {b : M Fl}
/-- a loop that never leaves early -/
theorem forL_run {its : List D} (I : Nat → SEnv → Prop) (hs : ∀ (i : Nat) (hi : i < its.length) (E : SEnv), I i E → ∃ E1 E2, g (.val its[i]) E = some E1 ∧ (b E1 = .ok .nx E2 ∨ b E1 = .ok .ct E2) ∧ I (i + 1) E2) :
    ∀ (n i : Nat) (E : SEnv), i + n = its.length → I i E → ∃ E', mForL g b (its.drop i) E = .ok .nx E' ∧ I its.length E'
  | 0, i, E, hn, h => by
    have e : i = its.length := by omega
    subst e
    rw [List.drop_length]
    exact ⟨E, rfl, h⟩
  | n + 1, i, E, hn, h => by
    have hi : i < its.length := by omega
    obtain ⟨E1, E2, e1, e2, h2⟩ := hs i hi E h
    obtain ⟨E', e3, h3⟩ := forL_run I hs n (i + 1) E2 (by omega) h2
    refine ⟨E', ?_, h3⟩
    rw [List.drop_eq_getElem_cons hi]
    simp only [mForL, e1]
    rcases e2 with e2 | e2 <;> simp only [e2, bind_ok] <;> exact e3
theorem for_none {mi : MI} {E E1 : SEnv} {its : List D} (hmi : mi E = .ok (its, none) E1) (I : Nat → SEnv → Prop) (h0 : I 0 E1) (hs : ∀ (i : Nat) (hi : i < its.length) (E : SEnv), I i E → ∃ E1 E2, g (.val its[i]) E = some E1 ∧ (b E1 = .ok .nx E2 ∨ b E1 = .ok .ct E2) ∧ I (i + 1) E2) :
    ∃ E', mFor mi g b E = .ok .nx E' ∧ I its.length E' := by
  obtain ⟨E', e, h⟩ := forL_run I hs its.length 0 E1 (by omega) h0
  rw [List.drop_zero] at e
  refine ⟨E', ?_, h⟩
  unfold mFor
  rw [hmi]
  simp only [bind_ok, lockE]
  rw [e]
  rfl
theorem for_own {mi : MI} {E E1 : SEnv} {its : List D} {j : Nat} {ds : List D} (hmi : mi E = .ok (its, some j) E1) (hj : E1[j]? = some (.own (.lst ds))) (I : Nat → SEnv → Prop) (h0 : I 0 (E1.set j (.lck (.lst ds)))) (hs : ∀ (i : Nat) (hi : i < its.length) (E : SEnv), I i E → ∃ E1 E2, g (.val its[i]) E = some E1 ∧ (b E1 = .ok .nx E2 ∨ b E1 = .ok .ct E2) ∧ I (i + 1) E2)
    (hl : ∀ E', I its.length E' → ∃ o, E'[j]? = some (.lck o)) : ∃ E' o, mFor mi g b E = .ok .nx (E'.set j (.own o)) ∧ I its.length E' ∧ E'[j]? = some (.lck o) := by
  obtain ⟨E', e, h⟩ := forL_run I hs its.length 0 _ (by omega) h0
  rw [List.drop_zero] at e
  obtain ⟨o, ho⟩ := hl E' h
  refine ⟨E', o, ?_, h, ho⟩
  unfold mFor
  rw [hmi]
  have q : lockE E1 (some j) = E1.set j (.lck (.lst ds)) := by simp only [lockE]; rw [hj]
  simp only [bind_ok]
  rw [q, e]
  simp [unlockX, unlockE, ho]
/-- a loop with a way out: the first i items go on, then it leaves -/
theorem forL_out {its : List D} (I : Nat → SEnv → Prop) (P : Res Fl → Prop) (hs : ∀ (i : Nat) (hi : i < its.length) (E : SEnv), I i E → ∃ E1, g (.val its[i]) E = some E1 ∧ ((∃ E2, (b E1 = .ok .nx E2 ∨ b E1 = .ok .ct E2) ∧ I (i + 1) E2) ∨ (∃ E2, b E1 = .ok .bk E2 ∧ P (.ok .nx E2)) ∨ (∃ r E2, b E1 = .ok (.rt r) E2 ∧ P (.ok (.rt r) E2)) ∨ (∃ x E2, b E1 = .ex x E2 ∧ P (.ex x E2))))
    (hd : ∀ E, I its.length E → P (.ok .nx E)) : ∀ (n i : Nat) (E : SEnv), i + n = its.length → I i E → P (mForL g b (its.drop i) E)
  | 0, i, E, hn, h => by
    have e : i = its.length := by omega
    subst e
    rw [List.drop_length]
    exact hd E h
  | n + 1, i, E, hn, h => by
    have hi : i < its.length := by omega
    obtain ⟨E1, e1, h2⟩ := hs i hi E h
    rw [List.drop_eq_getElem_cons hi]
    simp only [mForL, e1]
    rcases h2 with ⟨E2, e2, h2⟩ | ⟨E2, e2, h2⟩ | ⟨r, E2, e2, h2⟩ | ⟨x, E2, e2, h2⟩
    · have := forL_out I P hs hd n (i + 1) E2 (by omega) h2
      rcases e2 with e2 | e2 <;> simp only [e2, bind_ok] <;> exact this
    · simp only [e2, bind_ok]; exact h2
    · simp only [e2, bind_ok]; exact h2
    · simp only [e2, bind_ex]; exact h2
theorem for_out {mi : MI} {E E1 : SEnv} {its : List D} (hmi : mi E = .ok (its, none) E1) (I : Nat → SEnv → Prop) (P : Res Fl → Prop) (h0 : I 0 E1) (hs : ∀ (i : Nat) (hi : i < its.length) (E : SEnv), I i E → ∃ E1, g (.val its[i]) E = some E1 ∧ ((∃ E2, (b E1 = .ok .nx E2 ∨ b E1 = .ok .ct E2) ∧ I (i + 1) E2) ∨ (∃ E2, b E1 = .ok .bk E2 ∧ P (.ok .nx E2)) ∨ (∃ r E2, b E1 = .ok (.rt r) E2 ∧ P (.ok (.rt r) E2)) ∨ (∃ x E2, b E1 = .ex x E2 ∧ P (.ex x E2))))
    (hd : ∀ E, I its.length E → P (.ok .nx E)) : P (mFor mi g b E) := by
  have h := forL_out I P hs hd its.length 0 E1 (by omega) h0
  rw [List.drop_zero] at h
  unfold mFor
  rw [hmi]
  simp only [bind_ok, lockE]
  generalize mForL g b its E1 = r at h ⊢
  cases r <;> exact h
/-- while, with a measure -/
theorem while_run {c : M Bool} {b : M Fl} (I : SEnv → Prop) (P : Res Fl → Prop) (μ : SEnv → Nat) (hs : ∀ E, I E → (∃ E1, c E = .ok false E1 ∧ P (.ok .nx E1)) ∨ ∃ E1, c E = .ok true E1 ∧ ((∃ E2, (b E1 = .ok .nx E2 ∨ b E1 = .ok .ct E2) ∧ I E2 ∧ μ E2 < μ E) ∨ (∃ E2, b E1 = .ok .bk E2 ∧ P (.ok .nx E2)) ∨ (∃ r E2, b E1 = .ok (.rt r) E2 ∧ P (.ok (.rt r) E2))))
    (hP : P .no → False) {E : SEnv} (h : I E) : P (mWhile c b E) := by
  have key : ∀ n E, I E → μ E < n → P (mWhileF c b n E) := by
    intro n
    induction n with
    | zero => intro E _ hn; omega
    | succ n ih =>
      intro E hI hn
      rw [mWhileF]
      rcases hs E hI with ⟨E1, e1, p⟩ | ⟨E1, e1, h2⟩
      · simp only [e1, bind_ok]; exact p
      · simp only [e1, bind_ok, if_true]
        rcases h2 with ⟨E2, e2, hI2, hlt⟩ | ⟨E2, e2, p⟩ | ⟨r, E2, e2, p⟩
        · have := ih E2 hI2 (by omega)
          rcases e2 with e2 | e2 <;> simp only [e2, bind_ok] <;> exact this
        · simp only [e2, bind_ok]; exact p
        · simp only [e2, bind_ok]; exact p
  have hk := key (μ E + 1) E h (Nat.lt_succ_self _)
  rw [while_eq (n := μ E + 1) (fun e => by rw [e] at hk; exact hP hk)]
  exact hk
end

/-! ### comprehensions -/
theorem lcl_map {j : Nat} {mt : M Bool} {me : M Ret} {F : SEnv} {f : D → D} {p : D → Bool} (hj : j < F.length) : ∀ (its acc : List D), (∀ d ∈ its, ∃ r, mt (F.set j (.val d)) = .ok (p d) (F.set j (.val d)) ∧ (p d = true → me (F.set j (.val d)) = .ok r (F.set j (.val d)) ∧ take (F.set j (.val d)) r = some (f d, F.set j (.val d)))) → acc.length + its.length ≤ 1000000 →
    mLcL (st1 j) (wpE [j]) mt me its acc (F.set j .un) = .ok (acc ++ (its.filter p).map f) (F.set j .un)
  | [], acc, _, _ => by simp [mLcL]
  | d :: its, acc, h, hl => by
    obtain ⟨r, h1, h2⟩ := h d List.mem_cons_self
    rw [List.length_cons] at hl
    rw [mLcL]
    have e0 : st1 j d (F.set j .un) = some (F.set j (.val d)) := by unfold st1; rw [List.set_set]
    rw [e0]
    simp only [h1, noEx, bind_ok]
    have ew : wpE [j] (F.set j (.val d)) = some (F.set j .un) := by
      have : isFree (F.set j (.val d)) j = true := by unfold isFree; rw [List.getElem?_set_self hj]; rfl
      unfold wpE
      simp only [List.all_cons, List.all_nil, this, Bool.and_true, if_true]
      show some ((F.set j (.val d)).set j .un) = _
      rw [List.set_set]
    cases hp : p d with
    | true =>
      obtain ⟨h3, h4⟩ := h2 hp
      simp only [h3, bind_ok, h4, if_true]
      rw [ok_pos (by omega), ew]
      simp only
      rw [lcl_map hj its (acc ++ [f d]) (fun d' hd' => h d' (List.mem_cons_of_mem _ hd')) (by rw [List.length_append, List.length_singleton]; omega)]
      simp [hp]
    | false =>
      simp only [Bool.false_eq_true, if_false]
      rw [ew]
      simp only
      rw [lcl_map hj its acc (fun d' hd' => h d' (List.mem_cons_of_mem _ hd')) (by omega)]
      simp [hp]
/-- a comprehension over what isn't one's own -/
theorem lc_none {j : Nat} {mi : MI} {mt : M Bool} {me : M Ret} {E : SEnv} {its : List D} (f : D → D) (p : D → Bool) (hmi : mi E = .ok (its, none) E) (hh : isHid E j = true) (hl : its.length ≤ 1000000)
    (h : ∀ d ∈ its, ∃ r, mt (E.set j (.val d)) = .ok (p d) (E.set j (.val d)) ∧ (p d = true → me (E.set j (.val d)) = .ok r (E.set j (.val d)) ∧ take (E.set j (.val d)) r = some (f d, E.set j (.val d)))) :
    mLc [j] (st1 j) mi mt me E = .ok (.own (.lst ((its.filter p).map f))) E := by
  obtain ⟨s, es, _⟩ := hid_at hh
  have hj := (List.getElem?_eq_some_iff.mp es).1
  unfold mLc
  rw [hmi]
  simp only [bind_ok, List.all_cons, List.all_nil, hh, Bool.and_true, if_true, lockE]
  have q := lcl_map (F := E) hj its [] h (by simpa using hl)
  show (unlockX none (mLcL (st1 j) (wpE [j]) mt me its [] (E.set j .un))).bind _ = _
  rw [q]
  show Res.ok _ (restE E [j] (E.set j .un)) = _
  have : restE E [j] (E.set j .un) = E := by
    show ((E.set j .un).set j (E.getD j .un)) = E
    rw [List.set_set]
    refine set_at ?_
    rw [List.getD_eq_getElem?_getD, es]; rfl
  rw [this]
  simp
/-- over a list of one's own -/
theorem lc_own {j k : Nat} {mi : MI} {mt : M Bool} {me : M Ret} {E : SEnv} {its ds : List D} (f : D → D) (p : D → Bool) (hmi : mi E = .ok (its, some k) E) (hk : E[k]? = some (.own (.lst ds))) (hh : isHid E j = true) (hl : its.length ≤ 1000000)
    (h : ∀ d ∈ its, ∃ r, mt ((E.set k (.lck (.lst ds))).set j (.val d)) = .ok (p d) ((E.set k (.lck (.lst ds))).set j (.val d)) ∧ (p d = true → me ((E.set k (.lck (.lst ds))).set j (.val d)) = .ok r ((E.set k (.lck (.lst ds))).set j (.val d)) ∧ take ((E.set k (.lck (.lst ds))).set j (.val d)) r = some (f d, (E.set k (.lck (.lst ds))).set j (.val d)))) :
    mLc [j] (st1 j) mi mt me E = .ok (.own (.lst ((its.filter p).map f))) E := by
  obtain ⟨s, es, hs⟩ := hid_at hh
  have hj := (List.getElem?_eq_some_iff.mp es).1
  have hkl := (List.getElem?_eq_some_iff.mp hk).1
  have hne : j ≠ k := fun z => by subst z; rw [es] at hk; cases hk; cases hs
  unfold mLc
  rw [hmi]
  have q0 : lockE E (some k) = E.set k (.lck (.lst ds)) := by simp only [lockE]; rw [hk]
  simp only [bind_ok, List.all_cons, List.all_nil, hh, Bool.and_true, if_true]
  rw [q0]
  have q := lcl_map (F := E.set k (.lck (.lst ds))) (by rw [List.length_set]; exact hj) its [] h (by simpa using hl)
  show (unlockX (some k) (mLcL (st1 j) (wpE [j]) mt me its [] ((E.set k (.lck (.lst ds))).set j .un))).bind _ = _
  rw [q]
  have q2 : ((E.set k (.lck (.lst ds))).set j .un)[k]? = some (.lck (.lst ds)) := by rw [List.getElem?_set_ne hne, List.getElem?_set_self hkl]
  simp only [unlockX, unlockE, q2, bind_ok]
  have : restE E [j] (((E.set k (.lck (.lst ds))).set j .un).set k (.own (.lst ds))) = E := by
    show ((((E.set k (.lck (.lst ds))).set j .un).set k (.own (.lst ds))).set j (E.getD j .un)) = E
    rw [set_swap hne, List.set_set, List.set_set, set_at (l := E) hk]
    refine set_at ?_
    rw [List.getD_eq_getElem?_getD, es]; rfl
  rw [this]
  simp
end MP

namespace MP
open PySem PySem.Spec L2

/-! ### numbers from nought on -/
def nt (n : Nat) : D := .int (n : Int)
@[simp] theorem nt_eq (n : Nat) : nt n = .int (n : Int) := rfl
theorem Lay.nt : Lay MP.nt 0 := ⟨fun _ => rfl, fun _ => Nat.le_refl _, fun x y => by
  show PyData.eqv (.int (x : Int)) (.int (y : Int)) = _
  rw [Lay.int.eq]
  by_cases h : x = y
  · subst h; simp
  · have : ¬ ((x : Int) = (y : Int)) := by omega
    exact (decide_eq_false this).trans (decide_eq_false h).symm⟩
@[simp] theorem intsOf_nt : ∀ as : List Nat, intsOf (as.map nt) = some (as.map fun (n : Nat) => (n : Int))
  | [] => rfl
  | a :: as => by
    show (intsOf (as.map nt)).map (_ :: ·) = _
    rw [intsOf_nt as]; rfl
theorem map_nt (as : List Nat) : as.map nt = (as.map fun (n : Nat) => (n : Int)).map PyData.int := by
  rw [List.map_map]; rfl
@[simp] theorem f_eqLN (as bs : List Nat) : eqF (.list (as.map nt)) (.list (bs.map nt)) = some (.val (.bool (decide (as = bs)))) := eq_list Lay.nt (by decide) as bs
@[simp] theorem f_neLN (as bs : List Nat) : neF (.list (as.map nt)) (.list (bs.map nt)) = some (.val (.bool (!decide (as = bs)))) := ne_list Lay.nt (by decide) as bs
@[simp] theorem f_eqTN (as bs : List Nat) : eqF (.tuple (as.map nt)) (.tuple (bs.map nt)) = some (.val (.bool (decide (as = bs)))) := eq_tuple Lay.nt (by decide) as bs
@[simp] theorem f_neTN (as bs : List Nat) : neF (.tuple (as.map nt)) (.tuple (bs.map nt)) = some (.val (.bool (!decide (as = bs)))) := ne_tuple Lay.nt (by decide) as bs
@[simp] theorem f_eqTN0 (as : List Nat) : eqF (.tuple (as.map nt)) (.tuple []) = some (.val (.bool (decide (as = [])))) := f_eqTN as []
@[simp] theorem f_eqLN0 (as : List Nat) : eqF (.list (as.map nt)) (.list []) = some (.val (.bool (decide (as = [])))) := f_eqLN as []
@[simp] theorem p_nats (as : List Nat) : pureAll (as.map nt) = true := p_map fun _ _ => p_int _
/-- the numbers, rising -/
def sortN (as : List Nat) : List Nat := as.mergeSort fun a b => decide (a ≤ b)
theorem sortN_spec (as : List Nat) : (sortN as).Perm as ∧ (sortN as).Pairwise (· ≤ ·) := by
  refine ⟨List.mergeSort_perm _ _, ?_⟩
  have h := List.pairwise_mergeSort (le := fun a b : Nat => decide (a ≤ b)) (fun a b c h1 h2 => by simp at h1 h2 ⊢; omega) (fun a b => by simp; omega) as
  exact h.imp fun h => by simpa using h
theorem sort_nt (as : List Nat) : sortI (as.map fun (n : Nat) => (n : Int)) = (sortN as).map fun (n : Nat) => (n : Int) := by
  obtain ⟨h1, h2⟩ := sortN_spec as
  refine (sortI_eq (h1.map _) ?_).symm
  exact List.pairwise_map.mpr (h2.imp fun h => by omega)
@[simp] theorem f_sortedLN (as : List Nat) : sortedF [.list (as.map nt)] = some (.own (.lst ((sortN as).map nt))) := by
  rw [map_nt, f_sortedL, sort_nt, ← map_nt]
@[simp] theorem f_sortedTN (as : List Nat) : sortedF [.tuple (as.map nt)] = some (.own (.lst ((sortN as).map nt))) := by
  rw [map_nt, f_sortedT, sort_nt, ← map_nt]
theorem nat_sorted_eq : ∀ {l m : List Nat}, l.Perm m → l.Pairwise (· ≤ ·) → m.Pairwise (· ≤ ·) → l = m
  | [], m, h, _, _ => (List.nil_perm.mp h).symm
  | a :: l, [], h, _, _ => absurd h (by simp)
  | a :: l, b :: m, h, h1, h2 => by
    obtain ⟨g1, g2⟩ := List.pairwise_cons.mp h1
    obtain ⟨g3, g4⟩ := List.pairwise_cons.mp h2
    have ha : a ∈ b :: m := h.mem_iff.mp List.mem_cons_self
    have hb : b ∈ a :: l := h.mem_iff.mpr List.mem_cons_self
    have e : a = b := by
      rcases List.mem_cons.mp ha with e | ha
      · exact e
      · rcases List.mem_cons.mp hb with e | hb
        · exact e.symm
        · have := g1 b hb; have := g3 a ha; omega
    subst e
    rw [nat_sorted_eq (List.perm_cons a |>.mp h) g2 g4]
theorem sortN_eq {l m : List Nat} (h : m.Perm l) (h2 : m.Pairwise (· ≤ ·)) : sortN l = m := nat_sorted_eq ((sortN_spec l).1.trans h.symm) (sortN_spec l).2 h2
theorem range_sorted (n : Nat) : (List.range n).Pairwise (· ≤ ·) := by
  have := List.pairwise_lt_range (n := n)
  exact this.imp fun h => Nat.le_of_lt h
theorem sortN_range {l : List Nat} {n : Nat} (h : l.Perm (List.range n)) : sortN l = List.range n := sortN_eq h.symm (range_sorted n)
theorem rangeD_nt (n : Nat) : rangeD 0 (n : Int) = (List.range n).map nt := rangeD_n n
theorem f_lrg1N {n : Nat} (h : n ≤ 1000000) : lrg1F (.int (n : Int)) = some (.own (.lst ((List.range n).map nt))) := by rw [f_lrg1 h, rangeD_nt]
theorem f_trg1N {n : Nat} (h : n ≤ 1000000) : trg1F (.int (n : Int)) = some (.val (.tuple ((List.range n).map nt))) := by rw [f_trg1 h, rangeD_nt]
theorem f_rng1N {n : Nat} (h : n ≤ 1000000) : rng1F [.int (n : Int)] = some ((List.range n).map nt) := by rw [f_rng1 h, rangeD_nt]
/-- the least, the greatest -/
theorem min_nt {as : List Nat} {m : Nat} (h : m ∈ as) (h2 : ∀ y ∈ as, m ≤ y) : minI (as.map fun (n : Nat) => (n : Int)) = (m : Int) := by
  refine (minI_eq (List.mem_map.mpr ⟨m, h, rfl⟩) fun y hy => ?_).symm
  obtain ⟨z, hz, rfl⟩ := List.mem_map.mp hy
  have := h2 z hz; omega
theorem max_nt {as : List Nat} {m : Nat} (h : m ∈ as) (h2 : ∀ y ∈ as, y ≤ m) : maxI (as.map fun (n : Nat) => (n : Int)) = (m : Int) := by
  refine (maxI_eq (List.mem_map.mpr ⟨m, h, rfl⟩) fun y hy => ?_).symm
  obtain ⟨z, hz, rfl⟩ := List.mem_map.mp hy
  have := h2 z hz; omega
theorem f_minTN {as : List Nat} {m : Nat} (h : m ∈ as) (h2 : ∀ y ∈ as, m ≤ y) : minF [.tuple (as.map nt)] = some (.val (.int (m : Int))) := by
  rw [map_nt, f_minT (by intro e; rw [List.map_eq_nil_iff.mp e] at h; cases h), min_nt h h2]
theorem f_minLN {as : List Nat} {m : Nat} (h : m ∈ as) (h2 : ∀ y ∈ as, m ≤ y) : minF [.list (as.map nt)] = some (.val (.int (m : Int))) := by
  rw [map_nt, f_minL (by intro e; rw [List.map_eq_nil_iff.mp e] at h; cases h), min_nt h h2]
theorem f_maxTN {as : List Nat} {m : Nat} (h : m ∈ as) (h2 : ∀ y ∈ as, y ≤ m) : maxF [.tuple (as.map nt)] = some (.val (.int (m : Int))) := by
  rw [map_nt, f_maxT (by intro e; rw [List.map_eq_nil_iff.mp e] at h; cases h), max_nt h h2]
theorem f_maxLN {as : List Nat} {m : Nat} (h : m ∈ as) (h2 : ∀ y ∈ as, y ≤ m) : maxF [.list (as.map nt)] = some (.val (.int (m : Int))) := by
  rw [map_nt, f_maxL (by intro e; rw [List.map_eq_nil_iff.mp e] at h; cases h), max_nt h h2]
theorem log2_small {j : Int} (h0 : 0 < j) (h : j < 9000) : j.natAbs.log2 < 9000 := by
  have := Nat.log2_le_self j.natAbs
  omega
theorem divOk {j : Int} (h0 : 0 < j) (h : j < 9000) : 0 < j ∧ j.natAbs.log2 < 9000 := ⟨h0, log2_small h0 h⟩

/-! ### loops over counts, over mapped lists -/
section
variable {g : MG} {b : M Fl} {mi : MI} {E E1 : SEnv}
theorem for_map {α : Type} {f : α → D} {as : List α} (hmi : mi E = .ok (as.map f, none) E1) (I : Nat → SEnv → Prop) (h0 : I 0 E1) (hs : ∀ (i : Nat) (hi : i < as.length) (E : SEnv), I i E → ∃ E1 E2, g (.val (f as[i])) E = some E1 ∧ (b E1 = .ok .nx E2 ∨ b E1 = .ok .ct E2) ∧ I (i + 1) E2) :
    ∃ E', mFor mi g b E = .ok .nx E' ∧ I as.length E' := by
  have := for_none (g := g) (b := b) hmi I h0 fun i hi E h => by
    have hi' : i < as.length := by simpa using hi
    have := hs i hi' E h
    simpa using this
  simpa using this
theorem for_rng {n : Nat} (hmi : mi E = .ok ((List.range n).map nt, none) E1) (I : Nat → SEnv → Prop) (h0 : I 0 E1) (hs : ∀ (i : Nat), i < n → ∀ (E : SEnv), I i E → ∃ E1 E2, g (.val (.int (i : Int))) E = some E1 ∧ (b E1 = .ok .nx E2 ∨ b E1 = .ok .ct E2) ∧ I (i + 1) E2) :
    ∃ E', mFor mi g b E = .ok .nx E' ∧ I n E' := by
  have := for_map (g := g) (b := b) hmi I h0 fun i hi E h => by
    have hi' : i < n := by simpa using hi
    have := hs i hi' E h
    simpa using this
  simpa using this
theorem for_mapOwn {α : Type} {f : α → D} {as : List α} {j : Nat} {ds : List D} (hmi : mi E = .ok (as.map f, some j) E1) (hj : E1[j]? = some (.own (.lst ds))) (I : Nat → SEnv → Prop) (h0 : I 0 (E1.set j (.lck (.lst ds)))) (hs : ∀ (i : Nat) (hi : i < as.length) (E : SEnv), I i E → ∃ E1 E2, g (.val (f as[i])) E = some E1 ∧ (b E1 = .ok .nx E2 ∨ b E1 = .ok .ct E2) ∧ I (i + 1) E2)
    (hl : ∀ E', I as.length E' → ∃ o, E'[j]? = some (.lck o)) : ∃ E' o, mFor mi g b E = .ok .nx (E'.set j (.own o)) ∧ I as.length E' ∧ E'[j]? = some (.lck o) := by
  have := for_own (g := g) (b := b) hmi hj I h0 (fun i hi E h => by
    have hi' : i < as.length := by simpa using hi
    have := hs i hi' E h
    simpa using this) (by simpa using hl)
  simpa using this
end
/-! ### comprehensions over mapped lists -/
section
variable {j : Nat} {mi : MI} {mt : M Bool} {me : M Ret} {E : SEnv}
theorem lc_map {α : Type} {f : α → D} {as : List α} (h : α → D) (hmi : mi E = .ok (as.map f, none) E) (hh : isHid E j = true) (hl : as.length ≤ 1000000)
    (hm : ∀ a ∈ as, ∃ r, me (E.set j (.val (f a))) = .ok r (E.set j (.val (f a))) ∧ take (E.set j (.val (f a))) r = some (h a, E.set j (.val (f a)))) :
    mLc [j] (st1 j) mi mYes me E = .ok (.own (.lst (as.map h))) E := by
  by_cases hne : as = []
  · subst hne
    have := lc_none (mt := mYes) (me := me) (fun d => d) (fun _ => true) hmi hh (by simp) (by intro d hd; simp at hd)
    simpa using this
  · -- the value by the item's data
    classical
    let F : D → D := fun d => if hd : ∃ a ∈ as, f a = d then h (Classical.choose hd) else d
    have hF : ∀ a ∈ as, ∃ r, me (E.set j (.val (f a))) = .ok r (E.set j (.val (f a))) ∧ take (E.set j (.val (f a))) r = some (F (f a), E.set j (.val (f a))) := fun a ha => by
      have hd : ∃ a' ∈ as, f a' = f a := ⟨a, ha, rfl⟩
      have eF : F (f a) = h (Classical.choose hd) := dif_pos hd
      obtain ⟨h1, h2⟩ := Classical.choose_spec hd
      obtain ⟨r, e1, e2⟩ := hm _ h1
      rw [h2] at e1 e2
      exact ⟨r, e1, by rw [eF]; exact e2⟩
    have q := lc_none (mt := mYes) (me := me) F (fun _ => true) hmi hh (by simpa using hl) fun d hd => by
      obtain ⟨a, ha, rfl⟩ := List.mem_map.mp hd
      obtain ⟨r, e1, e2⟩ := hF a ha
      exact ⟨r, rfl, fun _ => ⟨e1, e2⟩⟩
    rw [q]
    rw [show (as.map f).filter (fun _ => true) = as.map f from List.filter_eq_self.mpr fun _ _ => rfl, List.map_map]
    congr 3
    refine List.map_congr_left fun a ha => ?_
    obtain ⟨r, e1, e2⟩ := hF a ha
    obtain ⟨r', e3, e4⟩ := hm a ha
    rw [e1] at e3
    cases e3
    rw [e2] at e4
    exact (Prod.mk.inj (Option.some.inj e4)).1
theorem lc_mapOwn {α : Type} {f : α → D} {as : List α} {k : Nat} {ds : List D} (h : α → D) (hmi : mi E = .ok (as.map f, some k) E) (hk : E[k]? = some (.own (.lst ds))) (hh : isHid E j = true) (hl : as.length ≤ 1000000)
    (hm : ∀ a ∈ as, ∃ r, me ((E.set k (.lck (.lst ds))).set j (.val (f a))) = .ok r ((E.set k (.lck (.lst ds))).set j (.val (f a))) ∧ take ((E.set k (.lck (.lst ds))).set j (.val (f a))) r = some (h a, (E.set k (.lck (.lst ds))).set j (.val (f a)))) :
    mLc [j] (st1 j) mi mYes me E = .ok (.own (.lst (as.map h))) E := by
  classical
  let F : D → D := fun d => if hd : ∃ a ∈ as, f a = d then h (Classical.choose hd) else d
  have hF : ∀ a ∈ as, ∃ r, me ((E.set k (.lck (.lst ds))).set j (.val (f a))) = .ok r ((E.set k (.lck (.lst ds))).set j (.val (f a))) ∧ take ((E.set k (.lck (.lst ds))).set j (.val (f a))) r = some (F (f a), (E.set k (.lck (.lst ds))).set j (.val (f a))) := fun a ha => by
    have hd : ∃ a' ∈ as, f a' = f a := ⟨a, ha, rfl⟩
    have eF : F (f a) = h (Classical.choose hd) := dif_pos hd
    obtain ⟨h1, h2⟩ := Classical.choose_spec hd
    obtain ⟨r, e1, e2⟩ := hm _ h1
    rw [h2] at e1 e2
    exact ⟨r, e1, by rw [eF]; exact e2⟩
  have q := lc_own (mt := mYes) (me := me) F (fun _ => true) hmi hk hh (by simpa using hl) fun d hd => by
    obtain ⟨a, ha, rfl⟩ := List.mem_map.mp hd
    obtain ⟨r, e1, e2⟩ := hF a ha
    exact ⟨r, rfl, fun _ => ⟨e1, e2⟩⟩
  rw [q]
  rw [show (as.map f).filter (fun _ => true) = as.map f from List.filter_eq_self.mpr fun _ _ => rfl, List.map_map]
  congr 3
  refine List.map_congr_left fun a ha => ?_
  obtain ⟨r, e1, e2⟩ := hF a ha
  obtain ⟨r', e3, e4⟩ := hm a ha
  rw [e1] at e3
  cases e3
  rw [e2] at e4
  exact (Prod.mk.inj (Option.some.inj e4)).1
end
end MP

namespace MP
open PySem PySem.Spec L2

/-! ### a < b < c -/
def mChain (f g : D → D → Option Rv) (a b c : M Ret) : M Ret := fun E => (a E).bind fun r1 E1 => (b E1).bind fun r2 E2 => match dat E2 r1, dat E2 r2 with
  | some x, some y => (match f x y with
    | some (.val (.bool k)) => if k = true then (c E2).bind fun r3 E3 => op2 g E3 r2 r3 else .ok (.val (.bool false)) E2
    | _ => .no)
  | _, _ => .no
section
variable {X : Cx} {cl : Cl} {W : WX} {a b c : Expr} {pos : Pos} {ma mb mc : M Ret} {op op' : CmpOp} {r r' : R2} {f g : D → D → Option Rv}
theorem tChain_of {K : PySem.W.Frag} (hf : Op2 K r f) (hg : Op2 K r' g) (σ : St) (H : Hp) (Q : VK) (h : tM K cl W (mChain f g ma mb mc) σ H Q) : tChain r r' (tM K cl W ma) (tM K cl W mb) (tM K cl W mc) σ H Q := by
  obtain ⟨C, E, T, R, h⟩ := h
  refine ⟨C, E, T, R, (Run.bind h).imp fun r1 E1 h1 v1 H1 R1 b1 => ⟨C, E1, _, R1, (Run.bind h1).go fun r2 E2 h2 v2 H2 R2 b2 => ?_⟩⟩
  split at h2
  case h_2 => exact h2.elim
  rename_i x y e1 e2
  split at h2
  case h_2 => exact h2.elim
  rename_i k e3
  obtain ⟨F, ρ, RF⟩ := _root_.id R2
  have k1 : (T ++ [(v1, r1)] ++ [(v2, r2)])[T.length]? = some (v1, r1) := by simp
  have k2 : (T ++ [(v1, r1)] ++ [(v2, r2)])[T.length + 1]? = some (v2, r2) := by simp
  refine hf F H2 v1 v2 x y _ _ RF.fh (RF.dat k1 b1 e1) (RF.dat k2 b2 e2) e3 ⟨fun v hv => ?_, fun _ _ _ _ _ z => nomatch z⟩
  cases hv
  refine ⟨k, rfl, ?_⟩
  by_cases hk : k = true
  · rw [if_pos hk] at h2 ⊢
    refine ⟨C, E2, _, R2, ((Run.bind h2).go (T' := [(v1, r1)] ++ [(v2, r2)]) fun r3 E3 h3 => h3) |> fun z => ?_⟩
    rw [← List.append_assoc] at z
    refine z.imp fun r3 E3 h3 v3 H3 R3 b3 => ?_
    obtain ⟨y', z', rv, g1, g2, g3, p⟩ := op2_run h3
    obtain ⟨F3, ρ3, RF3⟩ := R3
    have k3 : (T ++ [(v1, r1)] ++ [(v2, r2)] ++ [(v3, r3)])[T.length + 1]? = some (v2, r2) := by simp
    have k4 : (T ++ [(v1, r1)] ++ [(v2, r2)] ++ [(v3, r3)])[T.length + 2]? = some (v3, r3) := by simp
    exact hg F3 H3 v2 v3 y' z' rv Q RF3.fh (RF3.dat k3 b2 g1) (RF3.dat k4 b3 g2) g3 (gives (T' := [(v1, r1), (v2, r2), (v3, r3)]) (by simpa using RF3) p)
  · rw [if_neg hk] at h2 ⊢
    exact h2 (.bl false) H2 (RelF.push_val (by simpa using RF.drop.drop) (.bl false)).rel trivial
theorem den_chain (hr : OpR X (compareOp op) r) (hf : Op2 X.K r f) (hr' : OpR X (compareOp op') r') (hg : Op2 X.K r' g) (ha : PE X a (tM X.K cl W ma)) (hb : PE X b (tM X.K cl W mb)) (hc : PE X c (tM X.K cl W mc)) (hm : lastMarks [op, op'] [b, c] = false := by with_unfolding_all rfl) :
    PE X (.Compare a [op, op'] [b, c] pos) (tM X.K cl W (mChain f g ma mb mc)) := PE.imp (pe_chain hr hr' ha hb hc hm) (tChain_of hf hg)
theorem den_chaint (hr : OpR X (compareOp op) r) (hf : Op2 X.K r f) (hr' : OpR X (compareOp op') r') (hg : Op2 X.K r' g) (ha : PE X a (tM X.K cl W ma)) (hb : PE X b (tM X.K cl W mb)) (hc : PE X c (tM X.K cl W mc)) (hm : lastMarks [op, op'] [b, c] = false := by with_unfolding_all rfl) :
    PT X (.Compare a [op, op'] [b, c] pos) (tMT X.K cl W (mBl (mChain f g ma mb mc))) := PT.imp (pt_chain hr hr' ha hb hc hm) fun σ H Q h => by
  obtain ⟨C, E, T, R, h⟩ := h
  have h2 := bl_run h
  exact tChain_of hf hg σ H _ ⟨C, E, T, R, h2.imp fun r1 E1 ⟨k, e1, h1⟩ v1 H1 R1 b1 => ⟨k, dat_bl R1 b1 e1, h1 H1 R1.drop⟩⟩
end

/-! ### slices -/
def mNoP : M (Option Int) := fun E => .ok none E
def mPart (m : M Ret) : M (Option Int) := fun E => (m E).bind fun r E1 => match dat E1 r with
  | some (.int i) => .ok (some i) E1
  | _ => .no
def cutA {α : Type} (xs : List α) (lo hi : Option Int) : List α := (xs.drop (HT.sIx xs.length 0 lo)).take (HT.sIx xs.length xs.length hi - HT.sIx xs.length 0 lo)
noncomputable def slF (d : D) (lo hi : Option Int) : Option Rv := match d with
  | .list ds => some (.own (.lst (cutA ds lo hi)))
  | .str z => if Ok (z.length ≤ big) then some (.val (.str (cutS z lo hi))) else none
  | _ => none
noncomputable def mSl (a : M Ret) (lo hi : M (Option Int)) : M Ret := fun E => (a E).bind fun r E1 => (lo E1).bind fun l E2 => (hi E2).bind fun u E3 => match dat E3 r with
  | some d => retO (slF d l u) E3
  | none => .no
theorem cut_dps {K : PySem.W.Frag} {F : Hp} {vs : List V} {ds : List D} (h : DpAll K F vs ds) (lo hi : Option Int) : DpAll K F (cutV vs lo hi) (cutA ds lo hi) := by
  unfold cutV cutA
  rw [dps_len h]
  exact dps_take _ (dps_drop _ h)
theorem cut_whole {ds : List D} {lo hi : Option Int} (h : HT.sIx ds.length 0 lo = 0 ∧ HT.sIx ds.length ds.length hi = ds.length) : cutA ds lo hi = ds := by
  unfold cutA
  rw [h.1, h.2]
  simp
section
variable {X : Cx} {cl : Cl} {W : WX} {e lo hi st : Expr} {pos p2 : Pos} {ma m : M Ret} {ml mh ms : M (Option Int)}
theorem den_noP : PO X none (tMO X.K cl W mNoP) := PO.imp po_none fun σ H Q h => by
  obtain ⟨C, E, T, R, h⟩ := h
  exact h H R
theorem den_part (h : PE X e (tM X.K cl W m)) : PO X (some e) (tMO X.K cl W (mPart m)) := PO.imp (po_some h) fun σ H Q h => by
  obtain ⟨C, E, T, R, h⟩ := h
  refine ⟨C, E, T, R, (Run.bind h).imp fun r E1 h1 v H1 R1 b1 => ?_⟩
  split at h1
  · rename_i i e1
    obtain ⟨F, ρ, RF⟩ := R1
    exact ⟨i, dpt_int (RF.dat (k := T.length) (by simp) b1 e1), h1 H1 RF.drop.rel⟩
  · exact h1.elim
def rSlM (K : PySem.W.Frag) : V → Option Int → Option Int → Hp → VK → Prop := fun x lo hi H Q => rSlL K x lo hi H Q ∨ rSlA K x lo hi H Q ∨ rSlS x lo hi H Q
theorem sl_m : SlR X (rSlM X.K) := sl_list.or (sl_tupA.or sl_str)
theorem sl_ok {K : PySem.W.Frag} {F H : Hp} {v : V} {d : D} {lo hi : Option Int} {rv : Rv} {Q : VK} (hs : Same F H) (hd : DpT K F H v d) (e : slF d lo hi = some rv) (g : Gives K F H Q rv) : rSlM K v lo hi H Q := by
  unfold slF at e
  split at e
  · cases e
    obtain ⟨a, us, rfl, h1, h2⟩ := dpt_lst hs hd
    exact .inl ⟨a, us, rfl, h1, fun p hp => g p _ hp ⟨_, rfl, cut_dps h2 _ _⟩⟩
  · split at e
    · rename_i z hl
      cases e
      exact .inr (.inr ⟨z, dpt_str hd, big_le hl, g.str⟩)
    · cases e
  · cases e
theorem den_sl {lo hi : Option Expr} (ha : PE X e (tM X.K cl W ma)) (hl : PO X lo (tMO X.K cl W ml)) (hh : PO X hi (tMO X.K cl W mh)) : PE X (.Subscript e (.Slice lo hi none p2) pos) (tM X.K cl W (mSl ma ml mh)) := PE.imp (pe_slice sl_m ha hl hh) fun σ H Q h => by
  obtain ⟨C, E, T, R, h⟩ := h
  refine ⟨C, E, T, R, (Run.bind h).imp fun r E1 h1 v H1 R1 b1 => ⟨C, E1, _, R1, (Run.bind h1).go fun l E2 h2 H2 R2 => ⟨C, E2, _, R2, (Run.bind h2).go fun u E3 h3 H3 R3 => ?_⟩⟩⟩
  split at h3
  · rename_i d e1
    obtain ⟨rv, e2, p⟩ := retO_run h3
    obtain ⟨F, ρ, RF⟩ := R3
    exact sl_ok RF.fh (RF.dat (k := T.length) (by simp) b1 e1) e2 (gives RF p)
  · exact h3.elim
/-! ### slices with a step, of lists -/
def pickA {α : Type} (xs : List α) (lo hi st : Option Int) : List α := (sliceRange (sliceBounds lo hi st xs.length).1 (sliceBounds lo hi st xs.length).2.1 (sliceBounds lo hi st xs.length).2.2).filterMap fun i => xs[i]?
theorem pick_vals {xs : List V} {us : List Value} (r : Vals xs us) : ∀ is : List Nat, Vals (is.filterMap fun i => xs[i]?) (is.filterMap fun i => us[i]?)
  | [] => .nil
  | i :: is => by
    rw [List.filterMap_cons, List.filterMap_cons]
    cases q : xs[i]? with
    | none =>
      have hn : us[i]? = none := by
        rw [List.getElem?_eq_none_iff] at q ⊢
        rw [← r.length]; exact q
      rw [hn]; exact pick_vals r is
    | some x =>
      obtain ⟨u, hu, ru⟩ := r.get q
      rw [hu]; exact .cons ru (pick_vals r is)
theorem pick_dps {K : PySem.W.Frag} {F : Hp} {vs : List V} {ds : List D} (h : DpAll K F vs ds) : ∀ is : List Nat, DpAll K F (is.filterMap fun i => vs[i]?) (is.filterMap fun i => ds[i]?)
  | [] => .nil
  | i :: is => by
    rw [List.filterMap_cons, List.filterMap_cons]
    cases q : ds[i]? with
    | none =>
      have hn : vs[i]? = none := by
        rw [List.getElem?_eq_none_iff] at q ⊢
        rw [dps_len h]; exact q
      rw [hn]; exact pick_dps h is
    | some d =>
      obtain ⟨v, hv, rv⟩ := dps_get h q
      rw [hv]; exact .cons rv (pick_dps h is)
def rSlStep (K : PySem.W.Frag) : V → Option Int → Option Int → Option Int → Hp → VK → Prop := fun x lo hi st H Q => ∃ a xs, x = .ref a ∧ SqL K H a xs ∧ st ≠ some 0 ∧ (pickA xs lo hi st).length ≤ sizeLine ∧ ∀ p, H p = none → Q (.ref p) (upd H p (.lst (pickA xs lo hi st)))
theorem pe_sliceS {te : TE} {tl th ts : TO} {lo hi st : Option Expr} (he : PE X e te) (hl : PO X lo tl) (hu : PO X hi th) (hst : PO X st ts) (hsub : ∀ o i, subscripted (.Slice lo hi st p2) false o i = operate [o, i] (getItem o i) := by intros; with_unfolding_all rfl) :
    PE X (.Subscript e (.Slice lo hi st p2) pos) (fun σ H Q => te σ H fun x H1 => tl σ H1 fun l H2 => th σ H2 fun u H3 => ts σ H3 fun k H4 => rSlStep X.K x l u k H4 Q) := by
  refine ⟨fun pins s σ H Q I h => ?_⟩
  refine PyProof.Rows.Subscript_ (thn (he.run pins s σ H _ I h) fun v s1 ⟨x, H1, I1, r1, q1⟩ => ?_)
  refine wpAny_Slice (thn (hl.run pins s1 σ H1 _ I1 q1) fun vl s2 ⟨l, H2, I2, pl, q2⟩ => thn (hu.run pins s2 σ H2 _ I2 q2) fun vu s3 ⟨u, H3, I3, pu, q3⟩ => thn (hst.run pins s3 σ H3 _ I3 q3) fun vk s4 ⟨k, H4, I4, pk, q4⟩ => ?_)
  obtain ⟨a, xs, rfl, hx, h0, hz2, q⟩ := q4
  cases r1
  have I5 : Inv X pins σ H4 { s4 with heap := s4.heap.push { cls := .type "slice", data := .fields #[vl, vu, vk] } } := I4.kept (t' := s4.toks) fun b ob q => Heap.get?_push_of_some _ q
  obtain ⟨its, r, ht, hz⟩ := I5.list hx
  have hlen := r.length
  have hs : ({ s4 with heap := s4.heap.push { cls := .type "slice", data := .fields #[vl, vu, vk] } } : Shared).heap.IsSliceOf s4.heap.objs.size vl vu vk := Heap.IsSliceOf.new ..
  have hg : wpAny (model X.prog X.w) X.A (getItem (.ref a) (.ref s4.heap.objs.size)) (EP X pins σ Q) X.xe { s4 with heap := s4.heap.push { cls := .type "slice", data := .fields #[vl, vu, vk] } } := by
    refine wpAny_getItem_list_slice ht.isList hs pl pu pk h0 ?_ (by rw [List.size_toArray] <;> omega)
    have e : slicePick its.toArray l u k = ((sliceRange (sliceBounds l u k its.length).1 (sliceBounds l u k its.length).2.1 (sliceBounds l u k its.length).2.2).filterMap fun i => its[i]?).toArray := by
      unfold slicePick
      simp
    rw [e]
    refine ⟨.ref _, _, I5.laid (t' := s4.toks) (o := .lst (pickA xs l u k)) (fun b ob q => Heap.get?_push_of_some _ q) (Nat.le_refl _) ?_, rfl, q _ (I5.hok.fresh (Nat.le_refl _))⟩
    refine ⟨hz2, _, 0, ?_, Heap.get?_push_size _ rfl⟩
    unfold pickA
    rw [hlen]
    exact pick_vals r _
  show wpAny (model X.prog X.w) X.A (PyProof.Rows.subscriptTail e (.Slice lo hi st p2) (.ref a) (.ref s4.heap.objs.size)) (EP X pins σ Q) X.xe { s4 with heap := s4.heap.push { cls := .type "slice", data := .fields #[vl, vu, vk] } }
  exact PyProof.Rows.tail_any (ops := [.ref a, .ref s4.heap.objs.size]) ht.isList.typeIs slot_list_getitem.lookup hg (hsub _ _)
end
noncomputable def slSF (d : D) (lo hi st : Option Int) : Option Rv := match d with
  | .list ds => if Ok (st ≠ some 0 ∧ (pickA ds lo hi st).length ≤ big) then some (.own (.lst (pickA ds lo hi st))) else none
  | _ => none
noncomputable def mSlS (a : M Ret) (lo hi st : M (Option Int)) : M Ret := fun E => (a E).bind fun r E1 => (lo E1).bind fun l E2 => (hi E2).bind fun u E3 => (st E3).bind fun k E4 => match dat E4 r with
  | some d => retO (slSF d l u k) E4
  | none => .no
section
variable {X : Cx} {cl : Cl} {W : WX} {e : Expr} {pos p2 : Pos} {ma m : M Ret} {ml mh ms : M (Option Int)} {lo hi st : Option Expr}
theorem den_slS (ha : PE X e (tM X.K cl W ma)) (hl : PO X lo (tMO X.K cl W ml)) (hh : PO X hi (tMO X.K cl W mh)) (hst : PO X st (tMO X.K cl W ms)) (hsub : ∀ o i, subscripted (.Slice lo hi st p2) false o i = operate [o, i] (getItem o i) := by intros; with_unfolding_all rfl) :
    PE X (.Subscript e (.Slice lo hi st p2) pos) (tM X.K cl W (mSlS ma ml mh ms)) := PE.imp (pe_sliceS ha hl hh hst hsub) fun σ H Q h => by
  obtain ⟨C, E, T, R, h⟩ := h
  refine ⟨C, E, T, R, (Run.bind h).imp fun r E1 h1 v H1 R1 b1 => ⟨C, E1, _, R1, (Run.bind h1).go fun l E2 h2 H2 R2 => ⟨C, E2, _, R2, (Run.bind h2).go fun u E3 h3 H3 R3 => ⟨C, E3, _, R3, (Run.bind h3).go fun k E4 h4 H4 R4 => ?_⟩⟩⟩⟩
  split at h4
  · rename_i d e1
    obtain ⟨rv, e2, p⟩ := retO_run h4
    obtain ⟨F, ρ, RF⟩ := R4
    have hd := RF.dat (k := T.length) (by simp) b1 e1
    unfold slSF at e2
    split at e2
    · split at e2
      · rename_i ds hk
        cases e2
        obtain ⟨a, us, rfl, g1, g2⟩ := dpt_lst RF.fh hd
        have g3 : DpAll X.K F (pickA us l u k) (pickA ds l u k) := by
          unfold pickA
          rw [dps_len g2]
          exact pick_dps g2 _
        refine ⟨a, us, rfl, g1, hk.1, by rw [dps_len g3]; exact big_le hk.2, fun p' hp => ?_⟩
        exact (gives (rv := .own (.lst (pickA ds l u k))) RF p) p' _ hp ⟨_, rfl, g3⟩
      · cases e2
    · cases e2
  · exact h4.elim
end

/-! ### x op= e -/
def addI (i j : Int) : Int := i + j
def subI (i j : Int) : Int := i - j
def mAug (i : Nat) (f : Int → Int → Int) (me : M Ret) : M Fl := fun E => match E[i]? with
  | some (.val (.int a)) => (me E).bind fun r E1 => match dat E1 r with
    | some (.int b) => (match mStore i (.val (.int (f a b))) E1 with
      | some E2 => .ok .nx E2
      | none => .no)
    | _ => .no
  | _ => .no
section
variable {X : Cx} {cl : Cl} {W : WX} {e : Expr} {pos p2 : Pos} {me mi : M Ret} {op : Operator}
theorem den_aug (i : Nat) {x : Str} {f : Int → Int → Int} (hN : X.N.Nodup) (ho : PIp X op (ipI f)) (he : PE X e (tM X.K cl W me)) (hi : X.N[i]? = some x := by rfl) (hx : Loc X.env.scope x := by first | exact Or.inl rfl | exact Or.inr rfl) (hf : X.fn x = true ∨ X.env.scope.names.lookup x = some .local := by first | exact .inl rfl | exact .inr rfl) :
    PS X (.AugAssign (.Name x p2) op e pos) (tMS X.K cl W (mAug i f me)) := PS.imp (ps_aug hN hi hx he ho hf) fun D σ H h => by
  obtain ⟨C, E, T, R, h⟩ := h
  unfold mAug at h
  split at h
  · rename_i a e0
    obtain ⟨F0, ρ0, RF0⟩ := _root_.id R
    obtain ⟨w, hw⟩ := slot_there RF0 e0
    obtain ⟨y, rfl, hy⟩ := RF0.sl i _ _ hw e0
    cases hy
    refine ⟨.int a, hw, C, E, T, R, (RunS.bind h).run fun r E1 h1 v1 H1 R1 b1 => ?_⟩
    split at h1
    · rename_i b e1
      split at h1
      · rename_i E2 e2
        obtain ⟨F, ρ, RF⟩ := R1
        have hv := dpt_int (RF.dat (k := T.length) (by simp) b1 e1)
        obtain ⟨F', ρ', _, R'⟩ := (RF.drop.push_val (.int (f a b))).store trivial e2
        exact ⟨a, b, rfl, hv, h1 _ _ R'.rel⟩
      · exact h1.elim
    · exact h1.elim
  · exact h.elim
end
theorem ip_addI {X : Cx} : PIp X .Add (ipI addI) := ip_add
theorem ip_subI {X : Cx} : PIp X .Sub (ipI subI) := ip_sub

/-! ### xs[i] = v, xs[i] += v, of a list of one's own -/
def setAt (j : Nat) (s : Option Slot) (k : Int) (d : D) (E : SEnv) : Option SEnv := match s with
  | some (.own (.lst ds)) => (ixN ds.length k).map fun n => E.set j (.own (.lst (ds.set n d)))
  | some (.lnt (.lst ds)) => (ixN ds.length k).map fun n => E.set j (.lnt (.lst (ds.set n d)))
  | _ => none
def gSubL (j : Nat) (mi : M Ret) : MG := fun r E => if isLst E j = true then (match mi E with
  | .ok ri E1 => (match dat E1 ri, take E1 r with
    | some (.int k), some (d, E2) => setAt j E2[j]? k d E2
    | _, _ => none)
  | _ => none) else none
section
variable {X : Cx} {cl : Cl} {W : WX} {e i : Expr} {pos p2 : Pos} {me mi : M Ret} {op : Operator}
theorem set_run {K : PySem.W.Frag} {C : Ctx} {F : Hp} {ρ : Own} {T : List (V × Ret)} {σ : St} {H : Hp} {E E' : SEnv} {j : Nat} {v x : V} {k : Int} {d : D} {Q : Hp → Prop} (R : RelF K cl C F ρ E T σ H) (b : σ[j]? = some (some v)) (hx : Dp K F x d) (h : setAt j E[j]? k d E = some E')
    (q : ∀ H', Rel K cl C E' T σ H' → Q H') : rSetL v (.int k) x H Q := by
  unfold setAt at h
  split at h
  · rename_i ds e
    obtain ⟨n, e1, rfl⟩ := Option.map_eq_some_iff.mp h
    obtain ⟨p, z1, ⟨ho, z2, ⟨us, rfl, z3⟩, z4, z5⟩, z6⟩ := R.sl j _ _ b e
    cases z1
    exact ⟨p, us, k, n, rfl, rfl, z2, by rw [dps_len z3]; exact e1, q _ (R.mut_own e b (o' := .lst (ds.set n d)) ⟨_, rfl, dps_set hx n z3⟩).rel⟩
  · rename_i ds e
    obtain ⟨n, e1, rfl⟩ := Option.map_eq_some_iff.mp h
    obtain ⟨p, z1, ⟨ho, z2, ⟨us, rfl, z3⟩, z4, z5⟩, z6⟩ := R.sl j _ _ b e
    cases z1
    exact ⟨p, us, k, n, rfl, rfl, z2, by rw [dps_len z3]; exact e1, q _ (R.mut_lnt e b (o' := .lst (ds.set n d)) ⟨_, rfl, dps_set hx n z3⟩).rel⟩
  · cases h
theorem lst_there {K : PySem.W.Frag} {C : Ctx} {F : Hp} {ρ : Own} {T : List (V × Ret)} {σ : St} {H : Hp} {E : SEnv} {j : Nat} (R : RelF K cl C F ρ E T σ H) (h : isLst E j = true) : ∃ v, σ[j]? = some (some v) := by
  obtain ⟨ls, hl⟩ := isLst_at h
  obtain ⟨w, hw⟩ : ∃ w, σ[j]? = some w := by rcases hl with e | e <;> exact slot_there R e
  rcases hl with e | e
  · obtain ⟨p, rfl, _⟩ := R.sl j _ _ hw e; exact ⟨_, hw⟩
  · obtain ⟨p, rfl, _⟩ := R.sl j _ _ hw e; exact ⟨_, hw⟩
theorem den_tsub (j : Nat) {x : Str} (hi : PE X i (tM X.K cl W mi)) (hN : X.N[j]? = some x := by rfl) (hv : Vis X.env.scope x := by first | exact Or.inl rfl | exact Or.inr (Or.inl rfl) | exact Or.inr (Or.inr rfl)) (hd : (x == ("__debug__" : Str)) = false := by decide) (hcd : (x == ("__classdict__" : Str)) = false := by decide)
    (ha : ∀ v, assign (.Subscript (.Name x p2) i pos) X.env v = (do
      let ov ← holding [v] (eval (.Name x p2) X.env)
      let iv ← holding [v, ov] (eval i X.env)
      standAt pos
      holding [v, ov, iv] (setItem ov iv v)
      release [v, ov, iv] []) := by intro _; rfl) : PG X (.Subscript (.Name x p2) i pos) (tMG X.K cl (gSubL j mi)) := PG.imp (pg_sub (pe_var hN hv hd hcd) hi set_list ha) fun v σ H Q h => by
  obtain ⟨C, E, T, r, R, b, E', e, h⟩ := h
  unfold gSubL at e
  split at e
  case isFalse => cases e
  rename_i hg
  obtain ⟨F0, ρ0, RF0⟩ := _root_.id R
  obtain ⟨w, hw⟩ := lst_there RF0 hg
  refine ⟨w, hw, C, E, _, R, ?_⟩
  cases q : mi E with
  | no => rw [q] at e; cases e
  | ex x E1 => rw [q] at e; cases e
  | ok ri E1 =>
    rw [q] at e
    simp only at e
    split at e
    case h_2 => cases e
    rename_i k d E2 e1 e2
    intro y H1 R1 b1
    obtain ⟨F, ρ, RF⟩ := R1
    have hk := dpt_int (RF.dat (k := T.length + 1) (v := y) (r := ri) (by simp) b1 e1)
    subst hk
    obtain ⟨F', f', RT, hd⟩ := RelF.take (T := T) (T2 := [(V.int k, ri)]) (by simpa using RF) b e2
    exact set_run RT.drop hw hd e fun H' R' => h σ H' R'
def rGetL (K : PySem.W.Frag) : V → V → Hp → VK → Prop := fun x y H Q => ∃ p xs i v, x = .ref p ∧ y = .int i ∧ SqL K H p xs ∧ atI xs i = some v ∧ Q v H
theorem get_list : PGet X (rGetL X.K) := by
  intro pins s σ H x y v u Q I rx ry h
  obtain ⟨p, xs, i, z, rfl, rfl, hq, he, q⟩ := h
  cases rx
  obtain ⟨t, rfl⟩ := ry
  obtain ⟨its, r, pl, hz⟩ := I.list hq
  obtain ⟨j, h1, h2, h3, h4, h5⟩ := atI_get he
  obtain ⟨w, ew, rw'⟩ := r.get h2
  have hl := r.length
  have hn := line63
  have fin : EP X pins σ Q w s := ⟨z, H, I, rw', q⟩
  by_cases h0 : 0 ≤ i
  · have hj : i.toNat = j := by
      rw [seqIndex_of h0 h5] at h1
      exact Option.some.inj h1
    exact wpAny_getItem_list pl.isList h0 (by omega) (by rw [hj]; simpa using ew) fin
  · have hj : (i + (its.toArray.size : Int)).toNat = j := by
      rw [seqIndex_neg (by omega) h4] at h1
      rw [List.size_toArray, ← hl]
      exact Option.some.inj h1
    exact wpAny_getItem_list_neg pl.isList (by omega) (by rw [List.size_toArray] <;> omega) (by omega) (by rw [hj]; simpa using ew) fin
end
def mAugS (j : Nat) (f : Int → Int → Int) (mi me : M Ret) : M Fl := fun E => if isLst E j = true then (mi E).bind fun ri E1 => (match dat E1 ri, dat E1 (.bor j) with
  | some (.int k), some (.list ds) => (match atI ds k with
    | some (.int a) => (me E1).bind fun rv E2 => (match dat E2 rv with
      | some (.int b) => (match setAt j E2[j]? k (.int (f a b)) E2 with
        | some E3 => .ok .nx E3
        | none => .no)
      | _ => .no)
    | _ => .no)
  | _, _ => .no) else .no
section
variable {X : Cx} {cl : Cl} {W : WX} {e i : Expr} {pos p2 p3 : Pos} {me mi : M Ret} {op : Operator}
theorem den_augS (j : Nat) {x : Str} {f : Int → Int → Int} (ho : PIp X op (ipI f)) (hi : PE X i (tM X.K cl W mi)) (he : PE X e (tM X.K cl W me)) (hN : X.N[j]? = some x := by rfl) (hv : Vis X.env.scope x := by first | exact Or.inl rfl | exact Or.inr (Or.inl rfl) | exact Or.inr (Or.inr rfl)) (hd : (x == ("__debug__" : Str)) = false := by decide) (hcd : (x == ("__classdict__" : Str)) = false := by decide)
    (ha : ∀ ov iv new, augStore i ov iv new = (do holding [new, ov, iv] (setItem ov iv new); release [new, ov, iv] []; pure .next) := by intros; rfl) : PS X (.AugAssign (.Subscript (.Name x p2) i p3) op e pos) (tMS X.K cl W (mAugS j f mi me)) :=
  PS.imp (ps_augS (pe_var hN hv hd hcd) hi get_list he ho set_list ha) fun D σ H h => by
    obtain ⟨C, E, T, R, h⟩ := h
    unfold mAugS at h
    split at h
    case isFalse => exact h.elim
    rename_i hg
    obtain ⟨F0, ρ0, RF0⟩ := _root_.id R
    obtain ⟨w, hw⟩ := lst_there RF0 hg
    refine ⟨w, hw, C, E, T, R, (RunS.bind h).run fun ri E1 h1 y H1 R1 b1 => ?_⟩
    split at h1
    case h_2 => exact h1.elim
    rename_i k ds e1 e2
    split at h1
    case h_2 => exact h1.elim
    rename_i a e3
    obtain ⟨F1, ρ1, RF1⟩ := _root_.id R1
    have hk := dpt_int (RF1.dat (k := T.length) (v := y) (r := ri) (by simp) b1 e1)
    subst hk
    have hlst := (RF1.push_bor (v := w) (i := j)).dat (k := T.length + 1) (v := w) (r := .bor j) (by simp) hw e2
    obtain ⟨p, us, rfl, g1, g2⟩ := dpt_lst RF1.fh hlst
    obtain ⟨z, g3, g4⟩ := atI_dps g2 e3
    cases g4
    refine ⟨p, us, k, .int a, rfl, rfl, g1, g3, C, E1, _, R1, ((RunS.bind h1).run (σ := σ) fun rv E2 h2 => h2).go fun rv E2 h2 y2 H2 R2 b2 => ?_⟩
    split at h2
    case h_2 => exact h2.elim
    rename_i b e4
    split at h2
    case h_2 => exact h2.elim
    rename_i E3 e5
    obtain ⟨F2, ρ2, RF2⟩ := R2
    have hb := dpt_int (RF2.dat (k := T.length + 1) (v := y2) (r := rv) (by simp) b2 e4)
    subst hb
    refine ⟨a, b, rfl, rfl, ?_⟩
    exact set_run (RelF.drop (T' := [(V.int k, ri), (V.int b, rv)]) (by simpa using RF2)) hw (.int _) e5 fun H' R' => h2 σ H' R'
end

/-! ### methods that read a list -/
def BmR (K : PySem.W.Frag) (r : V → List V → Hp → VK → Prop) (f : D → List D → Option Rv) : Prop :=
  ∀ (F H : Hp) (x : V) (xs : List V) (a : D) (as : List D) (rv : Rv) (Q : VK), Same F H → DpT K F H x a → DpTs K F H xs as → f a as = some rv → Gives K F H Q rv → r x xs H Q
def isL (d : Option D) : Bool := match d with
  | some (.list _) => true
  | _ => false
def mBmL (f : D → List D → Option Rv) (a : M Ret) (as : M (List Ret)) : M Ret := fun E => (a E).bind fun r E1 => if isL (dat E1 r) = true then (as E1).bind fun rs E2 => (match dat E2 r, dats E2 rs with
  | some d, some ds => retO (f d ds) E2
  | _, _ => .no) else .no
section
variable {X : Cx} {cl : Cl} {W : WX} {o e : Expr} {es : List Expr} {apos cpos : Pos} {ma : M Ret} {ms : M (List Ret)}
theorem den_bmL {name : Str} {id : String} {r : V → List V → Hp → VK → Prop} {f : D → List D → Option Rv} (slot : PySem.Slot "list" name id) (hty : typeOf (.builtin id) = pure (.type "method_descriptor")) (hm : MtR X id r) (hf : BmR X.K r f) (ho : PE X o (tM X.K cl W ma)) (ha : PA X (e :: es) (tMA X.K cl W ms))
    (pa : PlainAttrs "list" := by exact F.plainAttrs_list) (hbase : attributeBase o name X.env (eval o X.env) = eval o X.env := by rfl)
    (hfew : ((backTo cpos (starEach (e :: es) X.env)).all (fun x => !x.1) && (backToKw cpos (keywordEach [] X.env)).all (fun x => x.1.isSome)
      && decide ((e :: es).length + ([] : List Keyword).length + (if ([] : List Keyword).isEmpty then 0 else 1) < 30)) = true := by rfl)
    (hline : (apos.endLine == cpos.line) = true := by rfl) (hs : starEach (e :: es) X.env = (false, eval e X.env) :: starEach es X.env := by rfl) (hplain : (backTo cpos (starEach es X.env)).any (·.1) = false := by rfl) :
    PE X (.Call (.Attribute o name apos) (e :: es) [] cpos) (tM X.K cl W (mBmL f ma ms)) := PE.imp (pe_bm pa slot hty hm ho ha hbase hfew hline hs hplain) fun σ H Q h => by
  obtain ⟨C, E, T, R, h⟩ := h
  refine ⟨C, E, T, R, (Run.bind h).imp fun r1 E1 h1 v1 H1 R1 b1 => ?_⟩
  split at h1
  case isFalse => exact h1.elim
  rename_i hg
  obtain ⟨F1, ρ1, RF1⟩ := _root_.id R1
  have ht : tyV X.K "list" v1 H1 := by
    unfold isL at hg
    split at hg
    · rename_i ds ed
      obtain ⟨a, us, rfl, g1, g2⟩ := dpt_lst RF1.fh (RF1.dat (k := T.length) (by simp) b1 ed)
      exact .inl ⟨rfl, us, g1⟩
    · cases hg
  refine ⟨ht, C, E1, _, R1, (Run.bind h1).go fun rs E2 h2 vs H2 R2 b2 => ?_⟩
  split at h2
  · rename_i d ds e1 e2
    obtain ⟨rv, e3, p⟩ := retO_run h2
    obtain ⟨F, ρ, RF⟩ := R2
    have hz : (T ++ [(v1, r1)] ++ vs.zip rs)[T.length]? = some (v1, r1) := by simp
    exact hf F H2 v1 vs d ds rv Q RF.fh (RF.dat hz b1 e1) (RF.dats rfl b2 e2) e3 (gives (T' := [(v1, r1)] ++ vs.zip rs) (by simpa using RF) p)
  · exact h2.elim
end
/-- the place of the first one that is the same -/
def placeD (x : D) : List D → Option Nat
  | [] => none
  | d :: ds => if eqD d x = true then some 0 else (placeD x ds).map (· + 1)
theorem placeD_spec {x : D} : ∀ {ds : List D} {j : Nat}, placeD x ds = some j → (∃ d, ds[j]? = some d ∧ eqD d x = true) ∧ ∀ (m : Nat) (d : D), m < j → ds[m]? = some d → eqD d x = false
  | [], j, h => by cases h
  | d :: ds, j, h => by
    unfold placeD at h
    split at h
    · rename_i e; cases h; exact ⟨⟨d, rfl, e⟩, fun m _ hm => absurd hm (Nat.not_lt_zero _)⟩
    · rename_i e
      obtain ⟨j', h1, rfl⟩ := Option.map_eq_some_iff.mp h
      obtain ⟨⟨d', h2, h3⟩, h4⟩ := placeD_spec h1
      refine ⟨⟨d', by simpa using h2, h3⟩, fun m d'' hm hd => ?_⟩
      cases m with
      | zero => simp at hd; subst hd; simpa using e
      | succ m => exact h4 m d'' (by omega) (by simpa using hd)
noncomputable def indexF : D → List D → Option Rv := fun d as => match d, as with
  | .list ds, [x] => if Ok (flatD x = true ∧ ds.all flatD = true) then (placeD x ds).map fun j => .val (.int (j : Nat)) else none
  | _, _ => none
theorem index_ok {K : PySem.W.Frag} : BmR K (rIndex K) indexF := fun F H x xs a as rv Q hs ha hb e g => by
  unfold indexF at e
  split at e
  · split at e
    · rename_i hl
      obtain ⟨j, e1, rfl⟩ := Option.map_eq_some_iff.mp e
      obtain ⟨p, us, rfl, h1, h2⟩ := dpt_lst hs ha
      obtain ⟨y, rfl, hy⟩ := dpts1 hb
      have hy' := flat_dpt hy hl.1
      obtain ⟨⟨d, g1, g2⟩, g3⟩ := placeD_spec e1
      obtain ⟨v, g4, g5⟩ := dps_get h2 g1
      refine ⟨p, us, y, j, v, rfl, rfl, h1, flat_dp hy' hl.1, flat_dps h2 hl.2, g4, ?_, fun m z hm hz => ?_, g.int⟩
      · rw [eq_dp g5 hy' (List.all_eq_true.mp hl.2 _ (List.mem_of_getElem? g1)) hl.1]; exact g2
      · obtain ⟨d', g6, g7⟩ := dps_getV h2 hz
        rw [eq_dp g7 hy' (List.all_eq_true.mp hl.2 _ (List.mem_of_getElem? g6)) hl.1]
        exact g3 m d' hm g6
    · cases e
  · cases e
/-! ### enumerate of a list -/
def enumD : Nat → List D → List D
  | _, [] => []
  | i, d :: ds => .tuple [.int (i : Nat), d] :: enumD (i + 1) ds
theorem enumD_len : ∀ (i : Nat) (ds : List D), (enumD i ds).length = ds.length
  | _, [] => rfl
  | i, d :: ds => congrArg (· + 1) (enumD_len (i + 1) ds)
theorem enumD_get : ∀ (ds : List D) (i k : Nat) (x : D), (enumD i ds)[k]? = some x → ∃ d, ds[k]? = some d ∧ x = .tuple [.int ((i + k : Nat) : Int), d]
  | [], i, k, x, h => by simp [enumD] at h
  | d :: ds, i, 0, x, h => by simp [enumD] at h; exact ⟨d, rfl, h.symm⟩
  | d :: ds, i, k + 1, x, h => by
    have h' : (enumD (i + 1) ds)[k]? = some x := by simpa [enumD] using h
    obtain ⟨d', h1, h2⟩ := enumD_get ds (i + 1) k x h'
    exact ⟨d', by simpa using h1, by rw [h2]; congr 3; omega⟩
/-- the items of an argument that is a list, not one's own by a name -/
def mEnum (ms : M (List Ret)) : MI := fun E => (ms E).bind fun rs E1 => match takes E1 rs with
  | some ([.list ds], E2) => .ok (enumD 0 ds, none) E2
  | _ => .no
section
variable {X : Cx} {cl : Cl} {W : WX} {e : Expr} {p pos tpos : Pos} {elts : List Expr} {kk : Nat} {ms : M (List Ret)}
end
end MP

namespace MP
open PySem PySem.Spec L2

/-! ## plain laws of the further terms -/
section
variable (E : SEnv)
@[simp] theorem e_chain (f g : D → D → Option Rv) (a b c : M Ret) : mChain f g a b c E = (a E).bind fun r1 E1 => (b E1).bind fun r2 E2 => match dat E2 r1, dat E2 r2 with
  | some x, some y => (match f x y with
    | some (.val (.bool k)) => if k = true then (c E2).bind fun r3 E3 => op2 g E3 r2 r3 else .ok (.val (.bool false)) E2
    | _ => .no)
  | _, _ => .no := rfl
@[simp] theorem e_noP : mNoP E = .ok none E := rfl
@[simp] theorem e_part (m : M Ret) : mPart m E = (m E).bind fun r E1 => match dat E1 r with
  | some (.int i) => .ok (some i) E1
  | _ => .no := rfl
@[simp] theorem e_sl (a : M Ret) (lo hi : M (Option Int)) : mSl a lo hi E = (a E).bind fun r E1 => (lo E1).bind fun l E2 => (hi E2).bind fun u E3 => match dat E3 r with
  | some d => retO (slF d l u) E3
  | none => .no := rfl
@[simp] theorem e_slS (a : M Ret) (lo hi st : M (Option Int)) : mSlS a lo hi st E = (a E).bind fun r E1 => (lo E1).bind fun l E2 => (hi E2).bind fun u E3 => (st E3).bind fun k E4 => match dat E4 r with
  | some d => retO (slSF d l u k) E4
  | none => .no := rfl
@[simp] theorem e_aug (i : Nat) (f : Int → Int → Int) (me : M Ret) : mAug i f me E = match E[i]? with
  | some (.val (.int a)) => (me E).bind fun r E1 => match dat E1 r with
    | some (.int b) => (match mStore i (.val (.int (f a b))) E1 with
      | some E2 => .ok .nx E2
      | none => .no)
    | _ => .no
  | _ => .no := rfl
@[simp] theorem e_augS (j : Nat) (f : Int → Int → Int) (mi me : M Ret) : mAugS j f mi me E = if isLst E j = true then (mi E).bind fun ri E1 => (match dat E1 ri, dat E1 (.bor j) with
  | some (.int k), some (.list ds) => (match atI ds k with
    | some (.int a) => (me E1).bind fun rv E2 => (match dat E2 rv with
      | some (.int b) => (match setAt j E2[j]? k (.int (f a b)) E2 with
        | some E3 => .ok .nx E3
        | none => .no)
      | _ => .no)
    | _ => .no)
  | _, _ => .no) else .no := rfl
@[simp] theorem e_setAt (j : Nat) (ds : List D) (k : Int) (d : D) : setAt j (some (.own (.lst ds))) k d E = (ixN ds.length k).map fun n => E.set j (.own (.lst (ds.set n d))) := rfl
@[simp] theorem e_setAtl (j : Nat) (ds : List D) (k : Int) (d : D) : setAt j (some (.lnt (.lst ds))) k d E = (ixN ds.length k).map fun n => E.set j (.lnt (.lst (ds.set n d))) := rfl
@[simp] theorem e_gSubL (j : Nat) (mi : M Ret) (r : Ret) : gSubL j mi r E = if isLst E j = true then (match mi E with
  | .ok ri E1 => (match dat E1 ri, take E1 r with
    | some (.int k), some (d, E2) => setAt j E2[j]? k d E2
    | _, _ => none)
  | _ => none) else none := rfl
@[simp] theorem e_bmL (f : D → List D → Option Rv) (a : M Ret) (as : M (List Ret)) : mBmL f a as E = (a E).bind fun r E1 => if isL (dat E1 r) = true then (as E1).bind fun rs E2 => (match dat E2 r, dats E2 rs with
  | some d, some ds => retO (f d ds) E2
  | _, _ => .no) else .no := rfl
@[simp] theorem e_isL (ds : List D) : isL (some (.list ds)) = true := rfl
@[simp] theorem e_enum (ms : M (List Ret)) : mEnum ms E = (ms E).bind fun rs E1 => match takes E1 rs with
  | some ([.list ds], E2) => .ok (enumD 0 ds, none) E2
  | _ => .no := rfl
end
@[simp] theorem f_addI' (i j : Int) : addI i j = i + j := rfl
@[simp] theorem f_subI' (i j : Int) : subI i j = i - j := rfl
@[simp] theorem f_slL (ds : List D) (lo hi : Option Int) : slF (.list ds) lo hi = some (.own (.lst (cutA ds lo hi))) := rfl
theorem cut_map {α β : Type} (f : α → β) (as : List α) (lo hi : Option Int) : cutA (as.map f) lo hi = (cutA as lo hi).map f := by
  unfold cutA
  rw [List.length_map, ← List.map_drop, ← List.map_take]
theorem cut_from {α : Type} (as : List α) (k : Nat) : cutA as (some (k : Int)) none = as.drop k := by
  unfold cutA
  rw [HT.sIx_nat, HT.sIx_none, List.take_of_length_le (by rw [List.length_drop]; exact Nat.le_refl _)]
  rcases Nat.le_total k as.length with h | h
  · rw [Nat.min_eq_left h]
  · rw [Nat.min_eq_right h, List.drop_length, List.drop_eq_nil_of_le h]
theorem cut_to {α : Type} (as : List α) (k : Nat) : cutA as none (some (k : Int)) = as.take k := by
  unfold cutA
  rw [HT.sIx_nat, HT.sIx_none, List.drop_zero, Nat.sub_zero]
  rcases Nat.le_total k as.length with h | h
  · rw [Nat.min_eq_left h]
  · rw [Nat.min_eq_right h, List.take_length, List.take_of_length_le h]
theorem pick_map {α β : Type} (f : α → β) (as : List α) (lo hi st : Option Int) : pickA (as.map f) lo hi st = (pickA as lo hi st).map f := by
  unfold pickA
  rw [List.length_map, List.map_filterMap]
  congr 1
  funext i
  rw [List.getElem?_map]
theorem pick_len {α : Type} (as : List α) (lo hi st : Option Int) : (pickA as lo hi st).length ≤ as.length := by
  unfold pickA
  refine Nat.le_trans (List.length_filterMap_le _ _) (sliceRange_length_le _ _ _ _ (fun hc => ?_) fun hc => ?_)
  · simp only [sliceBounds] at hc ⊢
    simp only [hc, if_true]
    constructor
    · cases lo with
      | none => simp
      | some i => dsimp only; omega
    · cases hi with
      | none => simp
      | some i => dsimp only; omega
  · simp only [sliceBounds] at hc ⊢
    simp only [hc, if_false]
    constructor
    · cases lo with
      | none => simp
      | some i => dsimp only; omega
    · cases hi with
      | none => simp
      | some i => dsimp only; omega
theorem f_slSI {ns : List Int} {lo hi : Option Int} {k : Int} (hk : k ≠ 0) (hl : ns.length ≤ 1000000) : slSF (.list (ns.map PyData.int)) lo hi (some k) = some (.own (.lst ((pickA ns lo hi (some k)).map PyData.int))) := by
  unfold slSF
  simp only
  rw [ok_pos ⟨fun e => hk (Option.some.inj e), by rw [pick_map, List.length_map]; exact Nat.le_trans (pick_len _ _ _ _) hl⟩, pick_map]
theorem ixN_n {n i : Nat} (h : i < n) : ixN n (i : Int) = some i := by
  unfold ixN
  rw [if_pos (Int.natCast_nonneg i), if_pos (by omega), Int.toNat_natCast]
theorem range12 {lo : Nat} {hi : Nat} (h : hi ≤ 1000000) (h2 : lo ≤ 1000000) : rng2F [.int (lo : Int), .int (hi : Int)] = some ((List.range (hi - lo)).map fun i => nt (lo + i)) := by
  rw [f_rng2 (by omega) (by omega) (by omega) (by omega)]
  unfold rangeD
  rw [show ((hi : Int) - (lo : Int)).toNat = hi - lo by omega]
  congr 1
theorem range1 {hi : Nat} (h : hi ≤ 1000000) : rng2F [.int 1, .int (hi : Int)] = some ((List.range (hi - 1)).map fun i => nt (1 + i)) := range12 (lo := 1) h (by omega)
/-- a range from 1 to n, both told -/
theorem range1p {n : Nat} (h : n < 1000000) : rng2F [.int 1, .int ((n : Int) + 1)] = some ((List.range n).map fun i => nt (1 + i)) := by
  have := range1 (hi := n + 1) (by omega)
  rw [show ((n + 1 : Nat) : Int) = (n : Int) + 1 by omega] at this
  exact this

@[simp] theorem f_eqB (i j : Bool) : eqF (.bool i) (.bool j) = some (.val (.bool (decide (i = j)))) := rfl
@[simp] theorem f_neB (i j : Bool) : neF (.bool i) (.bool j) = some (.val (.bool (!decide (i = j)))) := rfl
@[simp] theorem f_isN (d : D) : isNF d = some (.val (.bool (isNon d))) := rfl
@[simp] theorem f_notN (d : D) : notNF d = some (.val (.bool (!isNon d))) := rfl
@[simp] theorem n_none : isNon .none = true := rfl
@[simp] theorem n_tuple (ds : List D) : isNon (.tuple ds) = false := rfl
@[simp] theorem n_list (ds : List D) : isNon (.list ds) = false := rfl
@[simp] theorem n_int (i : Int) : isNon (.int i) = false := rfl
/-! ### sizes of products -/
/-- not below nought, no more than 64 to e -/
def Bd (e : Nat) (x : Int) : Prop := 0 ≤ x ∧ x ≤ 64 ^ e
theorem bd_mono {e e' : Nat} {x : Int} (h : Bd e x) (he : e ≤ e') : Bd e' x := by
  refine ⟨h.1, Int.le_trans h.2 ?_⟩
  have h1 : (64 : Nat) ^ e ≤ 64 ^ e' := Nat.pow_le_pow_right (by decide) he
  have h2 : ((64 ^ e : Nat) : Int) ≤ ((64 ^ e' : Nat) : Int) := by omega
  simpa using h2
theorem bd_mul {e e' : Nat} {x y : Int} (h : Bd e x) (h' : Bd e' y) : Bd (e + e') (x * y) := by
  refine ⟨Int.mul_nonneg h.1 h'.1, ?_⟩
  rw [Int.pow_add]
  exact Int.mul_le_mul h.2 h'.2 h'.1 (Int.le_trans h.1 h.2)
theorem bd_small {x : Int} (h : 0 ≤ x) (h2 : x ≤ 64) : Bd 1 x := ⟨h, by simpa using h2⟩
theorem bd_one (e : Nat) : Bd e 1 := bd_mono (e := 0) ⟨by decide, by simp⟩ (Nat.zero_le _)
theorem bd_zero (e : Nat) : Bd e 0 := bd_mono (e := 0) ⟨by decide, by simp⟩ (Nat.zero_le _)
theorem log2_bd {e : Nat} {x : Int} (h : Bd e x) : x.natAbs.log2 ≤ 6 * e := by
  have h1 : x.natAbs ≤ 64 ^ e := by
    have h2 : (x.natAbs : Int) ≤ ((64 ^ e : Nat) : Int) := by
      rw [Int.natAbs_of_nonneg h.1]
      simpa using h.2
    omega
  have h3 : (64 : Nat) ^ e = 2 ^ (6 * e) := by rw [Nat.pow_mul]
  by_cases h0 : x.natAbs = 0
  · rw [h0]; simp
  · have h4 : x.natAbs < 2 ^ (6 * e + 1) := by
      rw [Nat.pow_succ, ← h3]
      have : 0 < 64 ^ e := Nat.pow_pos (by decide)
      omega
    have := (Nat.log2_lt h0).mpr h4
    omega
theorem mulOk_bd {e e' : Nat} {x y : Int} (h : Bd e x) (h' : Bd e' y) (he : e + e' ≤ 100000) : mulOk x y := by
  have h1 := log2_bd h
  have h2 := log2_bd h'
  exact .inr (.inr (by omega))
theorem mulOk_right {i j : Int} (h1 : -1000000 ≤ j) (h2 : j ≤ 1000000) : mulOk i j := .inr (.inl ⟨by omega, by omega⟩)
theorem mulOk_left {i j : Int} (h1 : -1000000 ≤ i) (h2 : i ≤ 1000000) : mulOk i j := .inl ⟨by omega, by omega⟩

theorem for_rng1 {g : MG} {b : M Fl} {mi : MI} {E E1 : SEnv} {n : Nat} (hmi : mi E = .ok ((List.range n).map fun i => nt (1 + i), none) E1) (I : Nat → SEnv → Prop) (h0 : I 0 E1) (hs : ∀ (i : Nat), i < n → ∀ (E : SEnv), I i E → ∃ E1 E2, g (.val (.int ((i + 1 : Nat) : Int))) E = some E1 ∧ (b E1 = .ok .nx E2 ∨ b E1 = .ok .ct E2) ∧ I (i + 1) E2) :
    ∃ E', mFor mi g b E = .ok .nx E' ∧ I n E' := by
  have := for_map (g := g) (b := b) (f := fun i => nt (1 + i)) (as := List.range n) hmi I h0 fun i hi E h => by
    have hi' : i < n := by simpa using hi
    obtain ⟨E1, E2, h1, h2⟩ := hs i hi' E h
    refine ⟨E1, E2, ?_, h2⟩
    rw [← h1]
    simp [Int.add_comm]
  simpa using this
theorem mMul_own {a b : M Ret} {E E1 E2 : SEnv} {xs : List D} {r2 : Ret} {n : Nat} (ha : a E = .ok (.own (.lst xs)) E1) (hb : b E1 = .ok r2 E2) (hd : dat E2 r2 = some (.int (n : Int))) (hn : n ≤ 1000) (hx : xs.length ≤ 1000) : mMul a b E = .ok (.own (.lst (List.replicate n xs).flatten)) E2 := by
  have hz : xs.length * n ≤ 1000 * 1000 := Nat.mul_le_mul hx hn
  rw [e_mMul, ha]
  simp only [bind_ok]
  rw [hb]
  simp only [bind_ok]
  rw [hd]
  simp only
  rw [ok_pos ⟨smallI_n (by omega), by rw [Int.toNat_natCast]; unfold big; omega⟩, Int.toNat_natCast]
theorem flat_rep1 {α : Type} (x : α) : ∀ n : Nat, (List.replicate n [x]).flatten = List.replicate n x
  | 0 => rfl
  | n + 1 => by rw [List.replicate_succ, List.flatten_cons, flat_rep1 x n, List.replicate_succ]; rfl
theorem mMul_rep {a b : M Ret} {E E1 E2 : SEnv} {x : D} {r2 : Ret} {n : Nat} (ha : a E = .ok (.own (.lst [x])) E1) (hb : b E1 = .ok r2 E2) (hd : dat E2 r2 = some (.int (n : Int))) (hn : n ≤ 1000) : mMul a b E = .ok (.own (.lst (List.replicate n x))) E2 := by
  rw [mMul_own ha hb hd hn (by simp), flat_rep1]
@[simp] theorem f_eqL00 : eqF (.list []) (.list []) = some (.val (.bool true)) := f_eqLN []  []
@[simp] theorem f_neL00 : neF (.list []) (.list []) = some (.val (.bool false)) := f_neLN [] []
@[simp] theorem f_eqT00 : eqF (.tuple []) (.tuple []) = some (.val (.bool true)) := f_eqTN [] []
@[simp] theorem f_neT00 : neF (.tuple []) (.tuple []) = some (.val (.bool false)) := f_neTN [] []
@[simp] theorem f_neTN0 (as : List Nat) : neF (.tuple (as.map nt)) (.tuple []) = some (.val (.bool (!decide (as = [])))) := f_neTN as []
@[simp] theorem f_neLN0 (as : List Nat) : neF (.list (as.map nt)) (.list []) = some (.val (.bool (!decide (as = [])))) := f_neLN as []
/-- a comprehension with a test over a mapped list -/
theorem lc_filt {j : Nat} {mi : MI} {mt : M Bool} {me : M Ret} {E : SEnv} {α : Type} {f : α → D} {as : List α} (h : α → D) (p : α → Bool) (hmi : mi E = .ok (as.map f, none) E) (hh : isHid E j = true) (hl : as.length ≤ 1000000)
    (hm : ∀ a ∈ as, ∃ r, mt (E.set j (.val (f a))) = .ok (p a) (E.set j (.val (f a))) ∧ (p a = true → me (E.set j (.val (f a))) = .ok r (E.set j (.val (f a))) ∧ take (E.set j (.val (f a))) r = some (h a, E.set j (.val (f a))))) :
    mLc [j] (st1 j) mi mt me E = .ok (.own (.lst ((as.filter p).map h))) E := by
  classical
  let F : D → D := fun d => if hd : ∃ a ∈ as, f a = d then h (Classical.choose hd) else d
  let Q : D → Bool := fun d => if hd : ∃ a ∈ as, f a = d then p (Classical.choose hd) else false
  have hQ : ∀ a ∈ as, Q (f a) = p a := fun a ha => by
    have hd : ∃ a' ∈ as, f a' = f a := ⟨a, ha, rfl⟩
    have eQ : Q (f a) = p (Classical.choose hd) := dif_pos hd
    obtain ⟨h1, h2⟩ := Classical.choose_spec hd
    obtain ⟨r, e1, _⟩ := hm _ h1
    obtain ⟨r', e2, _⟩ := hm _ ha
    rw [h2] at e1
    rw [e1] at e2
    rw [eQ]
    exact (Res.ok.inj e2).1
  have hF : ∀ a ∈ as, p a = true → ∃ r, me (E.set j (.val (f a))) = .ok r (E.set j (.val (f a))) ∧ take (E.set j (.val (f a))) r = some (F (f a), E.set j (.val (f a))) := fun a ha hpa => by
    have hd : ∃ a' ∈ as, f a' = f a := ⟨a, ha, rfl⟩
    have eF : F (f a) = h (Classical.choose hd) := dif_pos hd
    have eQ : Q (f a) = p (Classical.choose hd) := dif_pos hd
    obtain ⟨h1, h2⟩ := Classical.choose_spec hd
    obtain ⟨r, e0, e1⟩ := hm _ h1
    obtain ⟨e1, e2⟩ := e1 (by rw [← eQ, hQ a ha]; exact hpa)
    rw [h2] at e1 e2
    exact ⟨r, e1, by rw [eF]; exact e2⟩
  have q := lc_none (mt := mt) (me := me) F Q hmi hh (by simpa using hl) fun d hd => by
    obtain ⟨a, ha, rfl⟩ := List.mem_map.mp hd
    obtain ⟨r0, e0, _⟩ := hm a ha
    cases hpa : p a with
    | false => exact ⟨r0, by rw [e0, hQ a ha], fun z => by rw [hQ a ha, hpa] at z; cases z⟩
    | true =>
      obtain ⟨r, e1, e2⟩ := hF a ha hpa
      exact ⟨r, by rw [e0, hQ a ha], fun _ => ⟨e1, e2⟩⟩
  rw [q]
  congr 3
  rw [List.filter_map, List.map_map]
  have e1 : as.filter (Q ∘ f) = as.filter p := List.filter_congr fun a ha => hQ a ha
  rw [e1]
  refine List.map_congr_left fun a ha => ?_
  obtain ⟨ha, hpa⟩ := List.mem_filter.mp ha
  obtain ⟨r, e1, e2⟩ := hF a ha hpa
  obtain ⟨r', _, e3⟩ := hm a ha
  obtain ⟨e3, e4⟩ := e3 hpa
  rw [e1] at e3
  cases e3
  rw [e2] at e4
  exact (Prod.mk.inj (Option.some.inj e4)).1
end MP

namespace MP
open PySem PySem.Spec L2

/-! ### is None as a test -/
section
variable {X : Cx} {cl : Cl} {W : WX} {a b : Expr} {pos : Pos} {ma mb : M Ret}
theorem den_isNt {j : Nat} {p : Pos} (ha : PE X a (tM X.K cl W ma)) : PT X (.Compare a [.Is] [.Constant .none j p] pos) (tMT X.K cl W (mBl (m1 isNF ma))) := pt_ofC (pc_isN ha) (fun σ H Q h =>
  tUn_of (r := fun x H Q => Q (.bl (decide (x = .non))) H) (f := isNF) (fun F H x a rv Q hs hd e g => by cases e; rw [dpt_non hd]; exact g.bool) σ H Q h) rfl
theorem den_notNt {j : Nat} {p : Pos} (ha : PE X a (tM X.K cl W ma)) : PT X (.Compare a [.IsNot] [.Constant .none j p] pos) (tMT X.K cl W (mBl (m1 notNF ma))) := pt_ofC (pc_notN ha) (fun σ H Q h =>
  tUn_of (r := fun x H Q => Q (.bl (!decide (x = .non))) H) (f := notNF) (fun F H x a rv Q hs hd e g => by cases e; rw [dpt_non hd]; exact g.bool) σ H Q h) rfl
end
/-! ### in a list, deep -/
noncomputable def inDF : D → D → Option Rv
  | x, .list ds => if Ok (SeqAt.shaped x = true ∧ SeqAt.shaped (.list ds) = true) then some (.val (.bool (ds.any fun z => PyData.eqv z x))) else none
  | _, _ => none
noncomputable def ninDF : D → D → Option Rv
  | x, .list ds => if Ok (SeqAt.shaped x = true ∧ SeqAt.shaped (.list ds) = true) then some (.val (.bool (!ds.any fun z => PyData.eqv z x))) else none
  | _, _ => none
theorem inD_ok {K : PySem.W.Frag} : Op2 K (rInD K) inDF := fun F H x y a b rv Q hs ha hb e g => by
  unfold inDF at e
  split at e
  · split at e
    · rename_i hl
      cases e
      exact ⟨_, _, (dp_of ha hs).low, (dp_of hb hs).low, hl.1, hl.2, g.bool⟩
    · cases e
  · cases e
theorem ninD_ok {K : PySem.W.Frag} : Op2 K (rNotInD K) ninDF := fun F H x y a b rv Q hs ha hb e g => by
  unfold ninDF at e
  split at e
  · split at e
    · rename_i hl
      cases e
      exact ⟨_, _, (dp_of ha hs).low, (dp_of hb hs).low, hl.1, hl.2, g.bool⟩
    · cases e
  · cases e
theorem hu65 {A : Around} {k : Nat} (hr : Room k A) : A.units + 65 < cLine := by have := hr.un; omega
section
variable {α : Type} [DecidableEq α] {f : α → D} {k : Nat}
theorem any_lay (L : Lay f k) (x : α) : ∀ as : List α, ((as.map f).any fun z => PyData.eqv z (f x)) = decide (x ∈ as)
  | [] => by simp
  | a :: as => by
    rw [List.map_cons, List.any_cons, L.eq, any_lay L x as]
    by_cases h : a = x
    · subst h; simp
    · have h' : ¬ x = a := fun z => h z.symm
      simp [h, h']
theorem in_lay (L : Lay f k) (hk : k < 64) (x : α) (as : List α) : inDF (f x) (.list (as.map f)) = some (.val (.bool (decide (x ∈ as)))) := by
  unfold inDF
  simp only
  rw [ok_pos ⟨L.shaped (Nat.le_of_lt hk) x, L.list.shaped hk as⟩, any_lay L]
theorem nin_lay (L : Lay f k) (hk : k < 64) (x : α) (as : List α) : ninDF (f x) (.list (as.map f)) = some (.val (.bool (!decide (x ∈ as)))) := by
  unfold ninDF
  simp only
  rw [ok_pos ⟨L.shaped (Nat.le_of_lt hk) x, L.list.shaped hk as⟩, any_lay L]
end

/-! ### a display that is compared at once: what stands in it stays one's own -/
noncomputable def mDisp (f : D → D → Option Rv) (ms : M (List Ret)) (j : Nat) : M Ret := fun E => (ms E).bind fun rs E1 => match dats E1 rs, (E1[j]?).bind Slot.dat with
  | some ds, some d => if Ok (ds.length ≤ 1000) then (match f (.list ds) d with
    | some (.val (.bool k)) => .ok (.val (.bool k)) E1
    | _ => .no) else .no
  | _, _ => .no
section
variable {X : Cx} {cl : Cl} {W : WX} {es : List Expr} {pos p1 vpos : Pos} {ms : M (List Ret)} {op : CmpOp} {r : R2} {f : D → D → Option Rv}
theorem dps_dpts {K : PySem.W.Frag} {F H : Hp} (h : Same F H) {vs : List V} {ds : List D} (d : DpTs K F H vs ds) : DpAll K H vs ds := dps_of_dpts h d
theorem disp_of {K : PySem.W.Frag} {j : Nat} (hf : Op2 K r f) (σ : St) (H : Hp) (Q : VK) (h : tM K cl W (mDisp f ms j) σ H Q) :
    tOp r (fun σ H Q => tMA K cl W ms σ H fun vs H1 => vs.length ≤ sizeLine ∧ ∀ a, H1 a = none → Q (.ref a) (upd H1 a (.lst vs))) (tVar j) σ H Q := by
  obtain ⟨C, E, T, R, h⟩ := h
  refine ⟨C, E, T, R, (Run.bind h).imp fun rs E1 h1 vs H1 R1 b1 => ?_⟩
  split at h1
  case h_2 => exact h1.elim
  rename_i ds d e1 e2
  split at h1
  case isFalse => exact h1.elim
  rename_i hl
  split at h1
  case h_2 => exact h1.elim
  rename_i k e3
  have p := h1
  obtain ⟨F, ρ, RF⟩ := R1
  have hd := RF.dats rfl b1 e1
  have hda := dps_dpts RF.fh hd
  refine ⟨by rw [dps_len hda]; exact Nat.le_trans hl (by rw [sizeLine_eq]; decide), fun a ha => ?_⟩
  have fs : Same H1 (upd H1 a (.lst vs)) := fun b x e => by rw [upd_ne (ne_of_none e ha)]; exact e
  obtain ⟨s, es, ed⟩ := Option.bind_eq_some_iff.mp e2
  obtain ⟨w, hw⟩ := slot_there RF es
  have hv : ∃ v, w = some v := by
    have hs := RF.sl j w s hw es
    cases s with
    | un => cases ed
    | val d => obtain ⟨x, q, _⟩ := hs; exact ⟨x, q⟩
    | own o => obtain ⟨x, q, _⟩ := hs; exact ⟨_, q⟩
    | lnt o => obtain ⟨x, q, _⟩ := hs; exact ⟨_, q⟩
    | lck o => obtain ⟨x, _, q, _⟩ := hs; exact ⟨_, q⟩
    | exc o => cases ed
    | fn o => cases ed
    | nst b o => cases ed
  obtain ⟨v, rfl⟩ := hv
  have hy : Dp K H1 v d := dp_of ((RF.sl j _ _ hw es).dpt RF.fh ed) RF.fh
  refine ⟨v, hw, ?_⟩
  have R2 := (RF.drop.after (H' := upd H1 a (.lst vs)) (Stp.of RF.tb.1 fs) (L2.Same.refl F) (L2.Same.trans RF.fh fs) (fun _ _ _ => rfl))
  refine hf (upd H1 a (.lst vs)) (upd H1 a (.lst vs)) (.ref a) v (.list ds) d (.val (.bool k)) Q (L2.Same.refl _) (dpt_of (.lst (SqL.of upd_same) (dps_mono fs hda)) (L2.Same.refl _)) (dpt_of (dp_mono fs hy) (L2.Same.refl _)) e3 ?_
  refine ⟨fun u hu => ?_, fun _ _ _ _ _ z => nomatch z⟩
  cases hu
  exact (gives (T' := []) (rv := .val (.bool k)) (by simpa using R2) p).bool
theorem den_disp (j : Nat) {x : Str} (hr : OpR X (compareOp op) r) (hf : Op2 X.K r f) (ha : PA X es (tMA X.K cl W ms)) (hN : X.N[j]? = some x := by rfl) (hv : Vis X.env.scope x := by first | exact Or.inl rfl | exact Or.inr (Or.inl rfl) | exact Or.inr (Or.inr rfl)) (hd : (x == ("__debug__" : Str)) = false := by decide) (hcd : (x == ("__classdict__" : Str)) = false := by decide)
    (hm : behindInMarks op (.Name x vpos) = false := by first | exact nomark _ | rfl) : PE X (.Compare (.List es p1) [op] [.Name x vpos] pos) (tM X.K cl W (mDisp f ms j)) := PE.imp (pe_cmpR hr (pe_lst ha) (pe_var hN hv hd hcd) hm) (disp_of hf)
theorem den_dispt (j : Nat) {x : Str} (hr : OpR X (compareOp op) r) (hf : Op2 X.K r f) (ha : PA X es (tMA X.K cl W ms)) (hN : X.N[j]? = some x := by rfl) (hv : Vis X.env.scope x := by first | exact Or.inl rfl | exact Or.inr (Or.inl rfl) | exact Or.inr (Or.inr rfl)) (hd : (x == ("__debug__" : Str)) = false := by decide) (hcd : (x == ("__classdict__" : Str)) = false := by decide)
    (hm : behindInMarks op (.Name x vpos) = false := by first | exact nomark _ | rfl) : PT X (.Compare (.List es p1) [op] [.Name x vpos] pos) (tMT X.K cl W (mBl (mDisp f ms j))) := PT.imp (pt_cmpR hr (pe_lst ha) (pe_var hN hv hd hcd) hm) fun σ H Q h => by
  obtain ⟨C, E, T, R, h⟩ := h
  have h2 := bl_run h
  exact disp_of hf σ H _ ⟨C, E, T, R, h2.imp fun r1 E1 ⟨k, e1, h1⟩ v1 H1 R1 b1 => ⟨k, dat_bl R1 b1 e1, h1 H1 R1.drop⟩⟩
end
@[simp] theorem e_disp (E : SEnv) (f : D → D → Option Rv) (ms : M (List Ret)) (j : Nat) : mDisp f ms j E = (ms E).bind fun rs E1 => match dats E1 rs, (E1[j]?).bind Slot.dat with
  | some ds, some d => if Ok (ds.length ≤ 1000) then (match f (.list ds) d with
    | some (.val (.bool k)) => .ok (.val (.bool k)) E1
    | _ => .no) else .no
  | _, _ => .no := rfl
theorem for_out_map {g : MG} {b : M Fl} {mi : MI} {E E1 : SEnv} {α : Type} {f : α → D} {as : List α} (hmi : mi E = .ok (as.map f, none) E1) (I : Nat → SEnv → Prop) (P : Res Fl → Prop) (h0 : I 0 E1)
    (hs : ∀ (i : Nat) (hi : i < as.length) (E : SEnv), I i E → ∃ E1, g (.val (f as[i])) E = some E1 ∧ ((∃ E2, (b E1 = .ok .nx E2 ∨ b E1 = .ok .ct E2) ∧ I (i + 1) E2) ∨ (∃ E2, b E1 = .ok .bk E2 ∧ P (.ok .nx E2)) ∨ (∃ r E2, b E1 = .ok (.rt r) E2 ∧ P (.ok (.rt r) E2)) ∨ (∃ x E2, b E1 = .ex x E2 ∧ P (.ex x E2))))
    (hd : ∀ E, I as.length E → P (.ok .nx E)) : P (mFor mi g b E) := by
  refine for_out (g := g) (b := b) hmi I P h0 (fun i hi E h => ?_) (by simpa using hd)
  have hi' : i < as.length := by simpa using hi
  have := hs i hi' E h
  simpa using this
theorem find_at {α : Type} {p : α → Bool} : ∀ {l : List α} {i : Nat} (hi : i < l.length), (∀ r ∈ l.take i, p r = false) → p l[i] = true → l.find? p = some l[i]
  | a :: l, 0, _, _, h => by rw [List.find?_cons]; simp at h; simp [h]
  | a :: l, i + 1, hi, h0, h => by
    have ha : p a = false := h0 a (by simp)
    rw [List.find?_cons, ha]
    exact find_at (l := l) (i := i) (by simpa using hi) (fun r hr => h0 r (by simp [hr])) (by simpa using h)
/-- with a test, over a list of one's own -/
theorem lc_filtOwn {j k : Nat} {mi : MI} {mt : M Bool} {me : M Ret} {E : SEnv} {α : Type} {f : α → D} {as bs : List α} {ds : List D} (h : α → D) (p : α → Bool) (hmi : mi E = .ok (as.map f, some k) E) (hk : E[k]? = some (.own (.lst ds))) (hh : isHid E j = true) (hl : as.length ≤ 1000000)
    (hm : ∀ a ∈ as, ∃ r, mt ((E.set k (.lck (.lst ds))).set j (.val (f a))) = .ok (p a) ((E.set k (.lck (.lst ds))).set j (.val (f a))) ∧ (p a = true → me ((E.set k (.lck (.lst ds))).set j (.val (f a))) = .ok r ((E.set k (.lck (.lst ds))).set j (.val (f a))) ∧ take ((E.set k (.lck (.lst ds))).set j (.val (f a))) r = some (h a, (E.set k (.lck (.lst ds))).set j (.val (f a)))))
    (hb : as.filter p = bs) : mLc [j] (st1 j) mi mt me E = .ok (.own (.lst (bs.map h))) E := by
  subst hb
  classical
  let E' := E.set k (.lck (.lst ds))
  let F : D → D := fun d => if hd : ∃ a ∈ as, f a = d then h (Classical.choose hd) else d
  let Q : D → Bool := fun d => if hd : ∃ a ∈ as, f a = d then p (Classical.choose hd) else false
  have hQ : ∀ a ∈ as, Q (f a) = p a := fun a ha => by
    have hd : ∃ a' ∈ as, f a' = f a := ⟨a, ha, rfl⟩
    have eQ : Q (f a) = p (Classical.choose hd) := dif_pos hd
    obtain ⟨h1, h2⟩ := Classical.choose_spec hd
    obtain ⟨r, e1, _⟩ := hm _ h1
    obtain ⟨r', e2, _⟩ := hm _ ha
    rw [h2] at e1
    rw [e1] at e2
    rw [eQ]
    exact (Res.ok.inj e2).1
  have hF : ∀ a ∈ as, p a = true → ∃ r, me (E'.set j (.val (f a))) = .ok r (E'.set j (.val (f a))) ∧ take (E'.set j (.val (f a))) r = some (F (f a), E'.set j (.val (f a))) := fun a ha hpa => by
    have hd : ∃ a' ∈ as, f a' = f a := ⟨a, ha, rfl⟩
    have eF : F (f a) = h (Classical.choose hd) := dif_pos hd
    have eQ : Q (f a) = p (Classical.choose hd) := dif_pos hd
    obtain ⟨h1, h2⟩ := Classical.choose_spec hd
    obtain ⟨r, e0, e1⟩ := hm _ h1
    obtain ⟨e1, e2⟩ := e1 (by rw [← eQ, hQ a ha]; exact hpa)
    rw [h2] at e1 e2
    exact ⟨r, e1, by rw [eF]; exact e2⟩
  have q := lc_own (mt := mt) (me := me) F Q hmi hk hh (by simpa using hl) fun d hd => by
    obtain ⟨a, ha, rfl⟩ := List.mem_map.mp hd
    obtain ⟨r0, e0, _⟩ := hm a ha
    cases hpa : p a with
    | false => exact ⟨r0, by rw [e0, hQ a ha], fun z => by rw [hQ a ha, hpa] at z; cases z⟩
    | true =>
      obtain ⟨r, e1, e2⟩ := hF a ha hpa
      exact ⟨r, by rw [e0, hQ a ha], fun _ => ⟨e1, e2⟩⟩
  rw [q]
  congr 3
  rw [List.filter_map, List.map_map]
  have e1 : as.filter (Q ∘ f) = as.filter p := List.filter_congr fun a ha => hQ a ha
  rw [e1]
  refine List.map_congr_left fun a ha => ?_
  obtain ⟨ha, hpa⟩ := List.mem_filter.mp ha
  obtain ⟨r, e1, e2⟩ := hF a ha hpa
  obtain ⟨r', _, e3⟩ := hm a ha
  obtain ⟨e3, e4⟩ := e3 hpa
  rw [show me (E'.set j (.val (f a))) = _ from e3] at e1
  cases e1
  rw [show take (E'.set j (.val (f a))) _ = _ from e4] at e2
  exact (Prod.mk.inj (Option.some.inj e2)).1.symm
end MP

open PySem PySem.Spec L2
namespace MP
/-! ### an own object goes over to another variable -/
section
variable {K : PySem.W.Frag} {cl : Cl} {C : Ctx} {F : Hp} {ρ : Own} {E : SEnv} {T : List (V × Ret)} {σ : St} {H : Hp} {i j : Nat} {p : Addr} {o : MO}
theorem RelF.unset (R : RelF K cl C F ρ E T σ H) (e : E[j]? = some (.own o)) (b : σ[j]? = some (some (.ref p))) : RelF K cl C F (fun q => if q = p then none else ρ q) (E.set j .un) T σ H := by
  obtain ⟨p', e1, h1, h2⟩ := R.sl j _ _ b e
  cases e1
  have hq : ∀ g, g ≠ Tag.s j → ∀ q o, OwnAt K F ρ H g q o → OwnAt K F (fun q => if q = p then none else ρ q) H g q o := fun g n q o h' =>
    h'.grow (L2.Same.refl F) (fun _ e => e) h'.fn (if_neg (h'.apart h1 n))
  refine { len := by simpa using R.len, f0 := R.f0, fh := R.fh, h0 := R.h0, hf := R.hf, tb := R.tb, nt := R.nt, sl := fun k w s e1 e2 => ?_, ln := fun k q e' => ?_, tm := fun k w r e' => (R.tm k w r e').grow (L2.Same.refl F) (hq _ fun z => by cases z) }
  · rcases set_cases e2 with ⟨rfl, rfl, _⟩ | ⟨n, e2⟩
    · trivial
    · exact (R.sl k w s e1 e2).grow (L2.Same.refl F) (hq _ fun z => by cases z; exact n rfl)
  · obtain ⟨o2, g1, g2⟩ := R.ln k q e'
    have n : k ≠ j := fun z => by subst z; rw [e] at g1; cases g1
    exact ⟨o2, by rw [List.getElem?_set_ne (Ne.symm n)]; exact g1, g2⟩
theorem RelF.mov {s : Slot} (R : RelF K cl C F ρ E T σ H) (e : E[j]? = some (.own o)) (b : σ[j]? = some (some (.ref p))) (n : i ≠ j) (ei : E[i]? = some s) (hs : s.free = true) :
    ∃ ρ', RelF K cl C F ρ' ((E.set j .un).set i (.own o)) T (σ.set i (some (.ref p))) H := by
  obtain ⟨p', e1, h1, h2⟩ := R.sl j _ _ b e
  cases e1
  have R1 := R.unset e b
  refine ⟨fun q => if q = p then some (.s i) else ρ q, R1.put_slot (s := s) (by rw [List.getElem?_set_ne (Ne.symm n)]; exact ei) hs (L2.Same.refl F) R.fh R.hf R.tb.2 (fun g hg q o' h' => .inr ?_) ⟨p, rfl, ?_, h2⟩⟩
  · have hne : q ≠ p := fun z => by
      have := h'.tag
      rw [if_pos z] at this
      cases this
    exact h'.grow (L2.Same.refl F) (fun _ e => e) h'.fn (by rw [if_neg hne, if_neg hne])
  · obtain ⟨ho, e1, m, f, _⟩ := h1
    exact ⟨ho, e1, m, f, if_pos rfl⟩
end
def mMov (i j : Nat) : M Fl := fun E => match E[j]?, E[i]? with
  | some (.own o), some s => if i ≠ j ∧ s.free = true then .ok .nx ((E.set j .un).set i (.own o)) else .no
  | some (.val d), some s => if s.free = true then .ok .nx (E.set i (.val d)) else .no
  | _, _ => .no
section
variable {X : Cx} {cl : Cl} {W : WX} {pos vpos : Pos}
theorem den_mov (i j : Nat) {x y : Str} {pos' : Pos} (hN : X.N.Nodup) (hNy : X.N[j]? = some y := by rfl) (hv : Vis X.env.scope y := by first | exact Or.inl rfl | exact Or.inr (Or.inl rfl) | exact Or.inr (Or.inr rfl)) (hd : (y == ("__debug__" : Str)) = false := by decide) (hcd : (y == ("__classdict__" : Str)) = false := by decide)
    (hi : X.N[i]? = some x := by rfl) (hx : Loc X.env.scope x := by first | exact Or.inl rfl | exact Or.inr rfl) (hs : swapsWith (.Name y vpos) (some (.Name x pos')) pos.line X.env = pure false := by rfl) (hf : X.fn x = true ∨ X.env.scope.names.lookup x = some .local := by first | exact .inl rfl | exact .inr rfl) :
    PS X (.Assign [.Name x pos'] (.Name y vpos) pos) (tMS X.K cl W (mMov i j)) := PS.imp (ps_set hN hi hx (pe_var hNy hv hd hcd) hs hf) fun D σ H h => by
  obtain ⟨C, E, T, ⟨F, ρ, R⟩, h⟩ := h
  unfold mMov at h
  split at h
  · rename_i o s e1 e2
    split at h
    · rename_i hc
      obtain ⟨w, hw⟩ := slot_there R e1
      obtain ⟨p, rfl, _⟩ := R.sl j w _ hw e1
      obtain ⟨ρ', R'⟩ := R.mov e1 hw hc.1 e2 hc.2
      exact ⟨_, hw, h _ _ R'.rel⟩
    · exact h.elim
  · rename_i d s e1 e2
    split at h
    · rename_i hc
      obtain ⟨w, hw⟩ := slot_there R e1
      obtain ⟨x, rfl, h1⟩ := R.sl j w _ hw e1
      have R' := R.put_slot (v := x) (s' := .val d) e2 hc (L2.Same.refl F) R.fh R.hf R.tb.2 (fun _ _ _ _ h => .inr h) ⟨x, rfl, h1⟩
      exact ⟨_, hw, h _ _ R'.rel⟩
    · exact h.elim
  · exact h.elim
end
@[simp] theorem e_mov (i j : Nat) (E : SEnv) : mMov i j E = match E[j]?, E[i]? with
  | some (.own o), some s => if i ≠ j ∧ s.free = true then .ok .nx ((E.set j .un).set i (.own o)) else .no
  | some (.val d), some s => if s.free = true then .ok .nx (E.set i (.val d)) else .no
  | _, _ => .no := rfl
theorem fnok_no {P : Program} {w : World} {K : PySem.W.Frag} {mg : Str → Option Value} {base : Heap} {cl : Cl} {CX : CXT} {k : Nat} {f : Addr} {fd : FuncData} {ps : List Str} : FnOk P w K mg base CX k f fd ps (spM K cl fun _ => .no) :=
  ⟨fun vs H Q E ⟨_, _, _, _, _, h⟩ => h.elim, fun A outer s H args us vs Q E _ _ _ _ ⟨_, _, _, _, _, h⟩ => h.elim⟩
end MP

open PySem PySem.Spec L2
namespace MP
/-! ### a while loop whose states are told by a number -/
theorem while_ix {c : M Bool} {b : M Fl} (S : Nat → SEnv) (L : Nat) (R : Res Fl) (hR : R ≠ .no) (hc : ∀ i, i < L → c (S i) = .ok true (S i)) (hb : ∀ i, i < L → b (S i) = .ok .nx (S (i + 1)))
    (he : (∃ E1, c (S L) = .ok false E1 ∧ R = .ok .nx E1) ∨ (∃ r E1 E2, c (S L) = .ok true E1 ∧ b E1 = .ok (.rt r) E2 ∧ R = .ok (.rt r) E2) ∨ ∃ E1 E2, c (S L) = .ok true E1 ∧ b E1 = .ok .bk E2 ∧ R = .ok .nx E2) : mWhile c b (S 0) = R := by
  have key : ∀ n i, i ≤ L → L - i < n → mWhileF c b n (S i) = R := by
    intro n
    induction n with
    | zero => intro i _ h; omega
    | succ n ih =>
      intro i hi hn
      rw [mWhileF]
      by_cases hl : i < L
      · simp only [hc i hl, bind_ok, if_true, hb i hl]
        exact ih (i + 1) (by omega) (by omega)
      · have : i = L := by omega
        subst this
        rcases he with ⟨E1, e1, rfl⟩ | ⟨r, E1, E2, e1, e2, rfl⟩ | ⟨E1, E2, e1, e2, rfl⟩
        · simp [e1]
        · simp [e1, e2]
        · simp [e1, e2]
  have hk := key (L + 1) 0 (by omega) (by omega)
  rw [while_eq (n := L + 1) (fun e => hR (by rw [← hk, e]))]
  exact hk
theorem while_end {c : M Bool} {b : M Fl} (S : Nat → SEnv) (L : Nat) (hc : ∀ i, i < L → c (S i) = .ok true (S i)) (hb : ∀ i, i < L → b (S i) = .ok .nx (S (i + 1))) (he : c (S L) = .ok false (S L)) : mWhile c b (S 0) = .ok .nx (S L) :=
  while_ix S L _ (by intro h; cases h) hc hb (.inl ⟨_, he, rfl⟩)
theorem while_ret {c : M Bool} {b : M Fl} {r : Ret} {E2 : SEnv} (S : Nat → SEnv) (L : Nat) (hc : ∀ i, i ≤ L → c (S i) = .ok true (S i)) (hb : ∀ i, i < L → b (S i) = .ok .nx (S (i + 1))) (he : b (S L) = .ok (.rt r) E2) : mWhile c b (S 0) = .ok (.rt r) E2 :=
  while_ix S L _ (by intro h; cases h) (fun i h => hc i (by omega)) hb (.inr (.inl ⟨r, _, _, hc L (Nat.le_refl _), he, rfl⟩))
/-- appending, by length -/
theorem app_n {α : Type} (f : α → D) {as : List α} {a : α} (h : as.length < 100000) : appF (as.map f) [f a] = some ((as ++ [a]).map f, .none) := by
  unfold appF
  simp only
  rw [ok_pos (by rw [List.length_map]; unfold big; omega)]
  simp
@[simp] theorem isiB_int_bool (i : Bool) : isiB .int (.bool i) = true := rfl
@[simp] theorem isiB_int_str (i : Str) : isiB .int (.str i) = false := rfl
@[simp] theorem isiB_int_list (ds : List D) : isiB .int (.list ds) = false := rfl
@[simp] theorem isiB_int_tuple (ds : List D) : isiB .int (.tuple ds) = false := rfl
@[simp] theorem isiB_int_none  : isiB .int .none = false := rfl
@[simp] theorem isiB_bool_str (i : Str) : isiB .bool (.str i) = false := rfl
@[simp] theorem isiB_bool_list (ds : List D) : isiB .bool (.list ds) = false := rfl
@[simp] theorem isiB_bool_tuple (ds : List D) : isiB .bool (.tuple ds) = false := rfl
@[simp] theorem isiB_bool_none  : isiB .bool .none = false := rfl
@[simp] theorem isiB_str_int (i : Int) : isiB .str (.int i) = false := rfl
@[simp] theorem isiB_str_bool (i : Bool) : isiB .str (.bool i) = false := rfl
@[simp] theorem isiB_str_str (i : Str) : isiB .str (.str i) = true := rfl
@[simp] theorem isiB_str_list (ds : List D) : isiB .str (.list ds) = false := rfl
@[simp] theorem isiB_str_tuple (ds : List D) : isiB .str (.tuple ds) = false := rfl
@[simp] theorem isiB_str_none  : isiB .str .none = false := rfl
@[simp] theorem isiB_list_int (i : Int) : isiB .list (.int i) = false := rfl
@[simp] theorem isiB_list_bool (i : Bool) : isiB .list (.bool i) = false := rfl
@[simp] theorem isiB_list_str (i : Str) : isiB .list (.str i) = false := rfl
@[simp] theorem isiB_list_tuple (ds : List D) : isiB .list (.tuple ds) = false := rfl
@[simp] theorem isiB_list_none  : isiB .list .none = false := rfl
@[simp] theorem isiB_tuple_int (i : Int) : isiB .tuple (.int i) = false := rfl
@[simp] theorem isiB_tuple_bool (i : Bool) : isiB .tuple (.bool i) = false := rfl
@[simp] theorem isiB_tuple_str (i : Str) : isiB .tuple (.str i) = false := rfl
@[simp] theorem isiB_tuple_list (ds : List D) : isiB .tuple (.list ds) = false := rfl
@[simp] theorem isiB_tuple_none  : isiB .tuple .none = false := rfl
end MP

open PySem PySem.Spec L2
namespace MP
section
open PyProof.Rows
/-! ### a refusal that is caught and kept -/
section
variable {X : Cx} {pins : List (Addr × Obj)} {σ : L2.St} {H : Hp} {s0 s1 : Shared} {B : Heap} {a : Addr} {cls : Value} {d : Option Addr}
theorem exc_ok {P : Program} {w : World} {H : Hp} {h : Heap} (e : ∃ oe vs, h.get? a = some oe ∧ Zc cls d oe ∧ oe.data = .fields vs) : ObjOk P w H h a (ExcHO cls d a) := by
  obtain ⟨oe, vs, e1, e2, e3⟩ := e
  exact ⟨⟨oe, vs, e1, e2, e3⟩, ⟨oe, e1⟩, fun _ _ ⟨o, v, g1, g2, g3⟩ k => ⟨o, v, k o g1, g2, g3⟩⟩
/-- where an exception has come down, it is a thing of ours -/
theorem land_kept (I : Inv X pins σ H s0) (nb : ∀ b o, s0.heap.get? b = some o → b ∉ frs X.stack → B.get? b = some o) (st : B.StaysIn s1.heap) (up : s0.heap.UpToSlots s1.heap) (os : s1.os = s0.os) (ag : AllBare s1.gens)
    (na : H a = none) (ba : B.get? a = none) (he : ∃ oe vs, s1.heap.get? a = some oe ∧ Zc cls d oe ∧ oe.data = .fields vs) : Inv X pins σ (upd H a (ExcHO cls d a)) s1 := by
  have frame : ∀ b ∈ frs X.stack, ∀ o, s0.heap.get? b = some o → (∃ sl, s1.heap.get? b = some { o with slots := sl }) ∧ ∀ vs, o.data ≠ .fields vs := fun b hb o e => by
    obtain ⟨_, o1, e1, hd⟩ := I.stack.mem hb
    rw [e] at e1
    cases e1
    exact ⟨up b o e hd, hd⟩
  have fresh : s0.heap.get? a = none := by
    cases q : s0.heap.get? a with
    | none => rfl
    | some o =>
      by_cases hb : a ∈ frs X.stack
      · obtain ⟨⟨sl, e1⟩, hd⟩ := frame a hb o q
        obtain ⟨oe, vs, e2, _, e3⟩ := he
        rw [e1] at e2
        cases e2
        exact absurd e3 (hd vs)
      · rw [nb a o q hb] at ba
        cases ba
  have other : ∀ {b : Addr} {o : Obj}, s0.heap.get? b = some o → b ≠ a := fun {b o} e z => by
    subst z
    rw [fresh] at e
    cases e
  refine I.call' (ch := []) os ?_ ?_ ag (fun _ z => nomatch z)
  · refine { keep := fun b o e n hb _ => st b o (nb b o e hb), slot := fun b o e n hb _ => (frame b hb o e).1, free := fun b o e n _ => ?_, there := fun b o e _ => ?_, tups := fun b xs e => ?_, frzs := fun b o u e => ?_, tbls := fun b ps e => ⟨#[], ?_⟩ }
    · rw [upd_ne (other e)]; exact n
    · by_cases hb : b ∈ frs X.stack
      · obtain ⟨⟨sl, e1⟩, _⟩ := frame b hb o e
        exact ⟨_, e1⟩
      · exact ⟨o, st b o (nb b o e hb)⟩
    · rw [upd_ne (ne_of_none e na)]; exact e
    · rw [upd_ne (ne_of_none e na)]; exact e
    · rw [upd_ne (ne_of_none e na), e]; simp
  · have g : HOk X.prog X.w H s1.heap := (I.inGround nb).kept st
    intro b u e
    by_cases hb : b = a
    · subst hb
      rw [upd_same] at e
      cases e
      exact exc_ok he
    · rw [upd_ne hb] at e
      exact (g b u e).stay (fun _ _ _ q => q) (fun c q => by rw [upd_ne (ne_of_none q na)]; exact q) (fun c xs q => by rw [upd_ne (ne_of_none q na)]; exact q)
theorem in_suite (I : Inv X pins σ H s0) : Inv (X.suite a (X.pn ++ pins)) [] σ H s0 :=
  { ok := I.ok.suite _ _, os := I.os, bare := I.bare, base := I.base, loc := I.loc, cell := I.cell, free := I.free, freeC := I.freeC, hok := I.hok, len := I.len,
    pin := fun p hp => I.pin p (by simpa using hp) }
theorem out_suite {pn : List (Addr × Obj)} (I : Inv (X.suite a (X.pn ++ pins)) pn σ H s0) (ok : X.Ok) : Inv X pins σ H s0 :=
  { ok := ok, os := I.os, bare := I.bare, base := I.base, loc := I.loc, cell := I.cell, free := I.free, freeC := I.freeC, hok := I.hok, len := I.len,
    pin := fun p hp => I.pin p (List.mem_append_left _ hp) }
end
/-- what the clause wishes of a refusal of the body -/
def wKeep (K : PySem.W.Frag) (c : Value) (i : Nat) (ts : TS) (D : Ends) : WX := fun cls d σ H =>
  PySem.W.exmOne K cls c = some true ∧ ∀ a, H a = none → ts { nx := fun σ1 H1 => D.nx (σ1.set i none) H1, rt := D.rt, bk := fun σ1 H1 => D.bk (σ1.set i none) H1, ct := fun σ1 H1 => D.ct (σ1.set i none) H1 } (σ.set i (some (.ref a))) (upd H a (ExcHO cls d a))
section
variable {X : Cx} {x n : Str} {c : Value} {i : Nat} {body suite : List Stmt} {b1 : Stmt} {np pos pos2 : Pos} {tb : WX → TS} {ts : TS}
theorem ps_keep (hs : X.stack = X.env :: X.outer) (hf : X.env.frame = some X.env.locals) (hN : X.N.Nodup) (hi : X.N[i]? = some n) (hln : X.env.kindOf n = some .local) (hc : Names X x c)
    (hb : ∀ (W : WX) (pn : List (Addr × Obj)) (xe : Value → Shared → Prop), Takes (X.tr pn xe) W → PassesOwn (model X.prog X.w) X.A X.env xe → PSs (X.tr pn xe) body (tb W))
    (hsu : ∀ (a : Addr) (pn : List (Addr × Obj)), PSs (X.suite a pn) (b1 :: suite) ts) :
    PS X (.Try body [.ExceptHandler (some (.Name x np)) (some n) (b1 :: suite) pos2] [] [] pos) (fun D σ H => tb (wKeep X.K c i ts D) D σ H) := by
  refine ⟨fun pins s σ H D I h => ?_⟩
  have ok := I.ok
  have frm : X.A.frames = some (X.env :: X.outer) := by rw [ok.frames, hs]
  refine wpAny_Try_except (wpAny_mono ((hb (wKeep X.K c i ts D) (X.pn ++ pins) _ (fun u t xx => ?_) PassesOwn.looking).run [] s σ H D (I.toTry _) h) (fun f t q => ?_) (fun e t q => q))
  · obtain ⟨a, B, sI, pn1, σ1, H1, cls, d, rfl, J0, nb, up, sky, na, os, ag, hmatch, hgo⟩ := xx
    have J : Inv X pins σ1 H1 sI := J0.ofTry ok
    rw [show (X.tr (X.pn ++ pins) _).stack = X.env :: X.outer from hs] at sky
    refine Sky.land Zc.steady frm hf sky (fun h3 fl3 up3 => ?_)
    have J3 : Inv X pins σ1 (upd H1 a (ExcHO cls d a)) { t with heap := h3 } := land_kept J nb fl3.1 (up.trans up3) os ag na fl3.2.1 fl3.there
    obtain ⟨oe, vs, he, hz, hd⟩ := fl3.there
    refine wpAny_handleBy_cons (codeAny_handlers_test ?_) (fun q => by cases q)
    have ty : PySem.W.Looks (model X.prog X.w) h3 (typeOf (.ref a)) cls := fun A Q E s1 k q => wpAny_typeOf_ref (k _ _ he) (by rw [hz.1]; exact q)
    have mt := PySem.W.exm_one (M := model X.prog X.w) J3.kIn ty hmatch
    have asked : ∀ {Q : Value → Shared → Prop} {E : Value → Shared → Prop}, Q c { t with heap := h3 } → wpAny (model X.prog X.w) (X.A.mark (some (.ref a))) (eval (.Name x np) X.env) Q E { t with heap := h3 } := fun {Q E} q => by
      rcases hc with ⟨hg, hdb, hm | ⟨hm, hv, hne⟩⟩
      · exact ld_glob (in_suite (a := a) J3) hg hm q hdb
      · exact ld_blt (in_suite (a := a) J3) hg hm hv q hne hdb
    refine asked (mt.here ?_)
    refine codeAny_handlers_suite_as (HandSPX.lands_againZ fl3 fun h4 fl4 up4 => ?_)
    have J4 : Inv X pins σ1 (upd H1 a (ExcHO cls d a)) { t with heap := h4 } := land_kept J nb fl4.1 ((up.trans up3).trans up4) os ag na fl4.2.1 fl4.there
    refine store_ok (X := X.suite a (X.pn ++ pins)) (v := .ref a) (in_suite (a := a) J4) hN hi (.inl hln) rfl (fun s5 S5 => ?_) (.inr hln)
    refine wpAny_mono ((hsu a (X.pn ++ pins)).run [] s5 _ _ _ S5 (hgo a na)) (fun f s6 q => ?_) (fun _ _ z => z.elim)
    have leave : ∀ {σ6 : L2.St} {H6 : Hp} {pn6 : List (Addr × Obj)} {R : Shared → Prop}, Inv (X.suite a (X.pn ++ pins)) pn6 σ6 H6 s6 → (∀ s7, Inv X pins (σ6.set i none) H6 s7 → R s7) →
        wpAny (model X.prog X.w) X.A (do bindName X.env n .none; unbindBehindTheSuite X.env n pos2) (fun _ s7 => R s7) X.xe s6 := fun S6 r => gone_ok (out_suite S6 ok) hN hi hln r
    cases f with
    | next => obtain ⟨σ6, H6, S6, q⟩ := q; exact leave S6 fun s7 J7 => ⟨_, _, J7, q⟩
    | brk => obtain ⟨σ6, H6, S6, q⟩ := q; exact leave S6 fun s7 J7 => ⟨_, _, J7, q⟩
    | cont => obtain ⟨σ6, H6, S6, q⟩ := q; exact leave S6 fun s7 J7 => ⟨_, _, J7, q⟩
    | ret u => obtain ⟨v6, σ6, H6, S6, r6, q⟩ := q; exact leave S6 fun s7 J7 => ⟨_, _, _, J7, r6, q⟩
  · cases f with
    | next => obtain ⟨σ1, H1, J, q⟩ := q; exact wpAny_execs_nil ⟨σ1, H1, J.ofTry ok, q⟩
    | brk => obtain ⟨σ1, H1, J, q⟩ := q; exact ⟨σ1, H1, J.ofTry ok, q⟩
    | cont => obtain ⟨σ1, H1, J, q⟩ := q; exact ⟨σ1, H1, J.ofTry ok, q⟩
    | ret u => obtain ⟨v, σ1, H1, J, r, q⟩ := q; exact ⟨v, σ1, H1, J.ofTry ok, r, q⟩
end
end
end MP

open PySem PySem.Spec L2
namespace MP
/-! ### the program's own refusals -/
def veB : List Value := [.type "ValueError", .type "Exception", .type "BaseException", .type "object"]
structure ClsOk (K : PySem.W.Frag) (mg : Str → Option Value) (x : Str) (C : Addr) : Prop where
  g : mg x = some (.ref C)
  kp : PySem.W.keepIn K (.ref C) = true
  ex : PySem.W.excIn K C veB "ValueError.__new__" = true
  sb : PySem.W.subIn K (.ref C) (.type "BaseException") = some true
  ty : PySem.W.typeIn K (.ref C) = some (.type "type")
  ec : ExcC K C
def mRaise (c : EC) : M Fl := fun E => .ex ⟨c, none⟩ E
def mTry (S : EC → Bool) (i j : Nat) (m : M Fl) : M Fl := fun E => match m E with
  | .ex x E1 => if S x.c = true ∧ x.row.isNone = true ∧ isFree E1 i = true ∧ isFree E1 j = true then .ok .nx (((E1.set i (.exc x)).set j (.exc x)).set i .un) else .no
  | r => r
section
variable {K : PySem.W.Frag} {cl : Cl} {C : Ctx} {F : Hp} {ρ : Own} {E : SEnv} {T : List (V × Ret)} {σ : L2.St} {H : Hp} {i : Nat}
theorem RelF.wipe {s : Slot} (R : RelF K cl C F ρ E T σ H) (e : E[i]? = some s) (hs : s.free = true) : RelF K cl C F ρ (E.set i .un) T (σ.set i none) H :=
  { len := by simpa using R.len, f0 := R.f0, fh := R.fh, h0 := R.h0, hf := R.hf, tb := R.tb, nt := R.nt, tm := R.tm,
    sl := fun k w u e1 e2 => by
      rcases set_cases e2 with ⟨rfl, rfl, _⟩ | ⟨n, e2⟩
      · trivial
      · rw [List.getElem?_set_ne (Ne.symm n)] at e1
        exact R.sl k w u e1 e2,
    ln := fun k q e1 => by
      obtain ⟨o, g1, g2⟩ := R.ln k q e1
      have n : k ≠ i := fun z => by subst z; rw [e] at g1; cases g1; cases hs
      exact ⟨o, by rw [List.getElem?_set_ne (Ne.symm n)]; exact g1, by rw [List.getElem?_set_ne (Ne.symm n)]; exact g2⟩ }
end
theorem isFree_at {E : SEnv} {i : Nat} (h : isFree E i = true) : ∃ s, E[i]? = some s ∧ s.free = true := by
  unfold isFree at h
  split at h
  · rename_i s e; exact ⟨s, e, h⟩
  · cases h
theorem isFree_set {E : SEnv} {i j : Nat} {s : Slot} (h : isFree E j = true) (hs : s.free = true) : isFree (E.set i s) j = true := by
  obtain ⟨t, e, ht⟩ := isFree_at h
  unfold isFree
  by_cases n : i = j
  · subst n
    rw [List.getElem?_set_self (List.getElem?_eq_some_iff.mp e).1]; exact hs
  · rw [List.getElem?_set_ne n, e]; exact ht
section
variable {X : Cx} {cl : Cl} {W : WX} {pos pos2 : Pos} {m : M Fl}
theorem den_raise (c : EC) {x t : Str} {j : Nat} {p p2 : Pos} (o : ClsOk X.K X.mg x (cl c)) (hc : X.calm = true) (tk : Takes X W) (hg : Gl X x) (hdb : (x == ("__debug__" : Str)) = false := by decide) :
    PS X (.Raise (some (.Call (.Name x p) [.Constant (.str t) j p2] [] pos)) none pos2) (tMS X.K cl W (mRaise c)) :=
  PS.imp (ps_raise hc tk (pmk_own PySem.F.excBase_ValueError o.ex o.g o.kp (raises_own o.sb o.ty) hg hdb)) fun D σ H h => by
    obtain ⟨C, E, T, R, h⟩ := h
    exact h none σ H R rfl
theorem den_try (S : EC → Bool) (i j : Nat) {x n y : Str} {np p1 p2 p3 : Pos} {body : List Stmt} {c : Value} (hs : X.stack = X.env :: X.outer) (hf : X.env.frame = some X.env.locals) (hN : X.N.Nodup) (hc : Names X x c)
    (hS : ∀ e, S e = true → PySem.W.exmOne X.K (.ref (cl e)) c = some true)
    (hb : ∀ (W : WX) (pn : List (Addr × Obj)) (xe : Value → Shared → Prop), Takes (X.tr pn xe) W → PassesOwn (model X.prog X.w) X.A X.env xe → PSs (X.tr pn xe) body (tMS X.K cl W m))
    (hi : X.N[i]? = some n := by rfl) (hj : X.N[j]? = some y := by rfl) (hln : X.env.kindOf n = some .local := by rfl) (hv : Vis X.env.scope n := by first | exact Or.inl rfl | exact Or.inr (Or.inl rfl) | exact Or.inr (Or.inr rfl)) (hd : (n == ("__debug__" : Str)) = false := by decide) (hcd : (n == ("__classdict__" : Str)) = false := by decide)
    (hx : Loc X.env.scope y := by first | exact Or.inl rfl | exact Or.inr rfl) (hsw : swapsWith (.Name n p2) (some (.Name y p1)) p3.line X.env = pure false := by rfl) (hfn : X.fn y = true ∨ X.env.scope.names.lookup y = some .local := by first | exact .inl rfl | exact .inr rfl) :
    PS X (.Try body [.ExceptHandler (some (.Name x np)) (some n) [.Assign [.Name y p1] (.Name n p2) p3] pos2] [] [] pos) (tMS X.K cl W (mTry S i j m)) :=
  PS.imp (ps_keep (tb := fun W => tMS X.K cl W m) hs hf hN hi hln hc hb fun a pn => pss_one (ps_set (X := X.suite a pn) hN hj hx (pe_var (X := X.suite a pn) hi hv hd hcd) hsw hfn)) fun D σ H h => by
    obtain ⟨C, E, T, R, h⟩ := h
    refine ⟨C, E, T, R, ?_⟩
    unfold mTry at h
    cases q : m E with
    | no => rw [q] at h; exact h.elim
    | ok fl E1 => rw [q] at h; exact h
    | ex x E1 =>
      rw [q] at h
      dsimp only at h
      split at h
      case isFalse => exact h.elim
      rename_i hh
      obtain ⟨h1, h2, h3, h4⟩ := hh
      intro d σ1 H1 R1 hd1
      have hrow : x.row = none := by simpa using h2
      have hd2 : d = none := by unfold ExD at hd1; rw [hrow] at hd1; exact hd1
      subst hd2
      refine ⟨hS _ h1, fun a na => ?_⟩
      obtain ⟨F, ρ, RF⟩ := R1
      obtain ⟨si, ei, fi⟩ := isFree_at h3
      have hil : i < σ1.length := by rw [← RF.len]; exact (List.getElem?_eq_some_iff.mp ei).1
      refine ⟨.ref a, List.getElem?_set_self hil, ?_⟩
      refine h _ _ ?_
      obtain ⟨R2, f2⟩ := RF.lay na (ExcHO (.ref (cl x.c)) none a)
      have hex : ExcOk cl (upd F a (ExcHO (.ref (cl x.c)) none a)) a x := by
        unfold ExcOk
        rw [hrow]
        exact upd_same
      have R3 := R2.put_slot (i := i) (v := .ref a) (s' := .exc x) ei fi (L2.Same.refl _) R2.fh R2.hf R2.tb.2 (fun _ _ _ _ h => .inr h) ⟨a, rfl, hex⟩
      obtain ⟨sj, ej, fj⟩ := isFree_at (isFree_set (i := i) (s := .exc x) h4 rfl)
      have R4 := R3.put_slot (i := j) (v := .ref a) (s' := .exc x) ej fj (L2.Same.refl _) R3.fh R3.hf R3.tb.2 (fun _ _ _ _ h => .inr h) ⟨a, rfl, hex⟩
      obtain ⟨sk, ek, fk⟩ := isFree_at (isFree_set (i := j) (s := .exc x) (isFree_set (i := i) (s := .exc x) h3 rfl) rfl)
      exact (R4.wipe ek fk).rel
end
@[simp] theorem e_raise (c : EC) (E : SEnv) : mRaise c E = .ex ⟨c, none⟩ E := rfl
@[simp] theorem e_try (S : EC → Bool) (i j : Nat) (m : M Fl) (E : SEnv) : mTry S i j m E = match m E with
  | .ex x E1 => if S x.c = true ∧ x.row.isNone = true ∧ isFree E1 i = true ∧ isFree E1 j = true then .ok .nx (((E1.set i (.exc x)).set j (.exc x)).set i .un) else .no
  | r => r := rfl
end MP

open PySem PySem.Spec L2
namespace MP
/-! ### isinstance of a refusal that is kept, or of none -/
section
variable {X : Cx}
theorem exc_at {pins : List (Addr × Obj)} {σ : L2.St} {H : Hp} {s : Shared} {a D : Addr} (I : Inv X pins σ H s) (h : H a = some (ExcHO (.ref D) none a)) : ∃ oe, PySem.W.InstAt s.heap a oe D none := by
  obtain ⟨⟨oe, vs, e1, hz, hd⟩, _⟩ := (show ObjOk X.prog X.w H s.heap a (ExcHO (.ref D) none a) from I.hok a _ h)
  obtain ⟨oc, od, dt, sl⟩ := oe
  obtain ⟨z1, z2⟩ := hz
  simp only at z1 z2 hd
  subst z1 z2 hd
  exact ⟨_, e1, rfl, rfl, trivial⟩
def rIsX (K : PySem.W.Frag) : List V → Hp → VK → Prop := fun xs H Q => ∃ (a D : Addr) (c : V) (u : Value) (b : Bool), xs = [.ref a, c] ∧ H a = some (ExcHO (.ref D) none a) ∧ ExcC K D ∧ ClsV c u ∧ PySem.W.kitOne K (.ref D) u = some b ∧ Q (.bl b) H
def rIsXT (K : PySem.W.Frag) : List V → Hp → VK → Prop := fun xs H Q => ∃ (a D tp : Addr) (cs : List V) (us : List Value) (b : Bool), xs = [.ref a, .ref tp] ∧ H a = some (ExcHO (.ref D) none a) ∧ ExcC K D ∧ H tp = some (.tup cs) ∧ Paired ClsV cs us ∧ PySem.W.kitAny K (.ref D) us = some b ∧ Q (.bl b) H
theorem call_isX : CallR X (.builtin "isinstance") (rIsX X.K) := by
  rintro pins s σ H xs us Q I r ⟨a, D, c, u, b, rfl, ha, C, k, e, q⟩
  obtain ⟨u1, u2, rfl, r1, r2⟩ := Vals.two r
  cases r1
  cases k.eq r2
  obtain ⟨oe, J⟩ := exc_at I ha
  exact PySem.W.kia_one (PySem.W.handS_kitx_exc C.hg C.hk C.hs C.hd C.ha C.hn C.ht C.hm) I.kIn J e (fun z => nomatch z) fun tk => ⟨.bl b, H, I.tok tk, rfl, q⟩
theorem call_isXT : CallR X (.builtin "isinstance") (rIsXT X.K) := by
  rintro pins s σ H xs us Q I r ⟨a, D, tp, cs, ws, b, rfl, ha, C, hT, k, e, q⟩
  obtain ⟨u1, u2, rfl, r1, r2⟩ := Vals.two r
  cases r1
  cases r2
  obtain ⟨oe, J⟩ := exc_at I ha
  obtain ⟨_, its, rv, o, h1, h2, n, h3⟩ := (show ObjOk X.prog X.w H s.heap tp (.tup cs) from I.hok tp _ hT)
  cases ClsV.all k rv
  obtain ⟨oc, od, dt, sl⟩ := o
  simp only at h2 h3
  subst h2 h3
  exact PySem.W.kia_tup (PySem.W.handS_kitx_exc C.hg C.hk C.hs C.hd C.ha C.hn C.ht C.hm) I.kIn J h1 e (fun z => nomatch z) fun tk => ⟨.bl b, H, I.tok tk, rfl, q⟩
end
def mIs (t : EC → Option Bool) (j : Nat) : M Ret := fun E => match E[j]? with
  | some (.exc x) => if x.row.isNone = true then (match t x.c with
    | some b => .ok (.val (.bool b)) E
    | none => .no) else .no
  | some (.val .none) => .ok (.val (.bool false)) E
  | _ => .no
section
variable {X : Cx} {cl : Cl} {W : WX} {pos : Pos}
/-- what the variable holds -/
theorem is_run {K : PySem.W.Frag} {t : EC → Option Bool} {j : Nat} {σ : L2.St} {H : Hp} {Q : VK} (h : tM K cl W (mIs t j) σ H Q) :
    (∃ a x b, σ[j]? = some (some (.ref a)) ∧ H a = some (ExcHO (.ref (cl x)) none a) ∧ t x = some b ∧ Q (.bl b) H ∧ ∀ p ho, H p = none → Q (.bl b) (upd H p ho)) ∨ (σ[j]? = some (some .non) ∧ Q (.bl false) H ∧ ∀ p ho, H p = none → Q (.bl false) (upd H p ho)) := by
  obtain ⟨C, E, T, ⟨F, ρ, R⟩, h⟩ := h
  unfold mIs at h
  split at h
  · rename_i x e
    split at h
    case isFalse => exact h.elim
    rename_i hr
    split at h
    case h_2 => exact h.elim
    rename_i b eb
    obtain ⟨w, hw⟩ := slot_there R e
    obtain ⟨a, rfl, hx⟩ := R.sl j _ _ hw e
    have hrow : x.row = none := by simpa using hr
    unfold ExcOk at hx
    rw [hrow] at hx
    refine .inl ⟨a, x.c, b, hw, R.fh _ _ hx, eb, h (.bl b) H (R.push_val (.bl b)).rel trivial, fun p ho hp => ?_⟩
    obtain ⟨R2, _⟩ := R.lay hp ho
    exact h (.bl b) _ (R2.push_val (.bl b)).rel trivial
  · rename_i e
    obtain ⟨w, hw⟩ := slot_there R e
    obtain ⟨y, rfl, hx⟩ := R.sl j _ _ hw e
    cases hx
    refine .inr ⟨hw, h (.bl false) H (R.push_val (.bl false)).rel trivial, fun p ho hp => ?_⟩
    obtain ⟨R2, _⟩ := R.lay hp ho
    exact h (.bl false) _ (R2.push_val (.bl false)).rel trivial
  · exact h.elim
theorem den_is1 (t : EC → Option Bool) (j : Nat) {n : Str} {e2 : Expr} {p p1 : Pos} {v : V} {u : Value} (hg : Gl X "isinstance") (hm : X.mg "isinstance" = none) (h2 : PE X e2 (tC v)) (k : ClsV v u)
    (ht : ∀ c b, t c = some b → ExcC X.K (cl c) ∧ PySem.W.kitOne X.K (.ref (cl c)) u = some b) (hz : PySem.W.kitOne X.K (.type "NoneType") u = some false)
    (hN : X.N[j]? = some n := by rfl) (hv : Vis X.env.scope n := by first | exact Or.inl rfl | exact Or.inr (Or.inl rfl) | exact Or.inr (Or.inr rfl)) (hd : (n == ("__debug__" : Str)) = false := by decide) (hcd : (n == ("__classdict__" : Str)) = false := by decide)
    (hs1 : starEach [.Name n p1, e2] X.env = (false, eval (.Name n p1) X.env) :: starEach [e2] X.env := by rfl) (hs2 : starEach [e2] X.env = (false, eval e2 X.env) :: starEach [] X.env := by rfl) (hpl : (backTo pos (starEach [e2] X.env)).any (·.1) = false := by rfl) :
    PE X (.Call (.Name "isinstance" p) [.Name n p1, e2] [] pos) (tM X.K cl W (mIs t j)) :=
  PE.imp (pe_callB (call_isX.or call_isi) hg hm PyProof.Rows.boot_isinstance (pa_cons (pe_var hN hv hd hcd) (pa_cons h2 pa_nil hs2) hs1) (by decide) (by decide) hs1 hpl) fun σ H Q h => by
    rcases is_run h with ⟨a, x, b, e1, e2, e3, q, _⟩ | ⟨e1, q, _⟩
    · obtain ⟨g1, g2⟩ := ht x b e3
      exact ⟨.ref a, e1, .inl ⟨a, cl x, v, u, b, rfl, e2, g1, k, g2, q⟩⟩
    · exact ⟨.non, e1, .inr ⟨.non, v, .type "NoneType", u, false, rfl, k, .base .non, hz, q⟩⟩
/-- names of classes -/
def tCC (vs : List V) : TA := fun _ H Q => Q vs H
theorem pa_cc {e : Expr} {es : List Expr} {v : V} {vs : List V} (h : PE X e (tC v)) (hs : PA X es (tCC vs)) (hst : starEach (e :: es) X.env = (false, eval e X.env) :: starEach es X.env := by rfl) : PA X (e :: es) (tCC (v :: vs)) := pa_cons h hs hst
theorem pa_c0 : PA X [] (tCC []) := pa_nil
theorem den_isT (t : EC → Option Bool) (j : Nat) {n : Str} {es : List Expr} {p p1 p2 : Pos} {k1 : Nat} {vs : List V} {us : List Value} (hg : Gl X "isinstance") (hm : X.mg "isinstance" = none) (h2 : PA X es (tCC vs)) (k : Paired ClsV vs us) (hlen : vs.length ≤ 100)
    (ht : ∀ c b, t c = some b → ExcC X.K (cl c) ∧ PySem.W.kitAny X.K (.ref (cl c)) us = some b) (hz : PySem.W.kitAny X.K (.type "NoneType") us = some false)
    (hN : X.N[j]? = some n := by rfl) (hv : Vis X.env.scope n := by first | exact Or.inl rfl | exact Or.inr (Or.inl rfl) | exact Or.inr (Or.inr rfl)) (hd : (n == ("__debug__" : Str)) = false := by decide) (hcd : (n == ("__classdict__" : Str)) = false := by decide)
    (hs1 : starEach [.Name n p1, .Tuple es k1 p2] X.env = (false, eval (.Name n p1) X.env) :: starEach [.Tuple es k1 p2] X.env := by rfl) (hs2 : starEach [.Tuple es k1 p2] X.env = (false, eval (.Tuple es k1 p2) X.env) :: starEach [] X.env := by rfl) (hpl : (backTo pos (starEach [.Tuple es k1 p2] X.env)).any (·.1) = false := by rfl) :
    PE X (.Call (.Name "isinstance" p) [.Name n p1, .Tuple es k1 p2] [] pos) (tM X.K cl W (mIs t j)) :=
  PE.imp (pe_callB (call_isXT.or call_isiT) hg hm PyProof.Rows.boot_isinstance (pa_cons (pe_var hN hv hd hcd) (pa_cons (pe_tup h2) pa_nil hs2) hs1) (by decide) (by decide) hs1 hpl) fun σ H Q h => by
    have hsz : vs.length ≤ sizeLine := by rw [sizeLine_eq]; omega
    rcases is_run h with ⟨a, x, b, e1, e2, e3, _, q⟩ | ⟨e1, _, q⟩
    · obtain ⟨g1, g2⟩ := ht x b e3
      refine ⟨.ref a, e1, hsz, fun tp na => .inl ⟨a, cl x, tp, vs, us, b, rfl, ?_, g1, upd_same, k, g2, q tp _ na⟩⟩
      rw [upd_ne (ne_of_none e2 na)]; exact e2
    · exact ⟨.non, e1, hsz, fun tp na => .inr ⟨.non, tp, vs, .type "NoneType", us, false, rfl, upd_same, k, .base .non, hz, q tp _ na⟩⟩
end
@[simp] theorem e_is (t : EC → Option Bool) (j : Nat) (E : SEnv) : mIs t j E = match E[j]? with
  | some (.exc x) => if x.row.isNone = true then (match t x.c with
    | some b => .ok (.val (.bool b)) E
    | none => .no) else .no
  | some (.val .none) => .ok (.val (.bool false)) E
  | _ => .no := rfl
/-! ### a law's answer, whatever its refusals are called -/
def spOk (K : PySem.W.Frag) (tT : List (Addr × Str)) (g : List D → FR) : Sp := fun vs H Q Ex => ∃ F0 ds, TOk tT F0 H ∧ Same F0 H ∧ DpAll K F0 vs ds ∧ ∃ r, g ds = .ok r ∧ ∀ v H' F', Stp tT H H' → Same F0 F' → Same F' H' → (∀ p o, H p = some o → F' p = F0 p) → RetV K F' H H' v r → Q v H'
theorem spOk_of {K : PySem.W.Frag} {cl : Cl} {g : List D → FR} {vs : List V} {H : Hp} {Q : VK} {Ex : XK} (h : spOk K cl.T g vs H Q Ex) : spM K cl g vs H Q Ex := by
  obtain ⟨F0, ds, h0, h1, h2, r, e, h3⟩ := h
  exact ⟨F0, ds, h0, h1, h2, by rw [e]; exact h3⟩
theorem end_ok {K : PySem.W.Frag} {T : List (Addr × Str)} {g : List D → FR} {H : Hp} {a : Addr} {ns : List Int} {Ex : XK} (t : LamX.Tabs T H) (h : SqL K H a (ns.map V.int)) (hg : g [.list (ns.map PyData.int)] = .ok (.val (.bool true))) :
    spOk K T g [.ref a] H (fun v _ => v = .bl true) Ex := by
  refine ⟨noT T H, [.list (ns.map PyData.int)], tok_noT t, noT_sub, .cons (.lst (sql_noT t h) (dps_of_ints ns)) .nil, _, hg, ?_⟩
  intro v H' F' h1 h2 h3 h4 hv
  cases (show Dp K F' v (.bool true) from hv)
  rfl
theorem boot_VE : bootBuiltins "ValueError" = some (.type "ValueError") := by decide +kernel
end MP

open PySem PySem.Spec L2
namespace MP
/-! ### several targets for a list -/
def gLstF (n : Nat) (gs : List D → SEnv → Option SEnv) : MG := fun r E => match dat E r with
  | some (.list ds) => if ds.length = n then gs ds E else none
  | _ => none
section
variable {X : Cx} {cl : Cl} {W : WX} {pos : Pos}
theorem den_tlst {es : List Expr} {k n : Nat} {gs : List D → SEnv → Option SEnv} (hc : X.calm = true) (h : PGs X es (tMGs X.K cl gs)) (hn : (assignEach es X.env).length = n := by rfl) (hst : (assignEach es X.env).findIdx? (·.1) = none := by rfl) : PG X (.Tuple es k pos) (tMG X.K cl (gLstF n gs)) :=
  PG.imp (pg_lst hc h hn hst) fun v σ H Q h => by
    obtain ⟨C, E, T, r, ⟨F, ρ, R⟩, b, E', e, h⟩ := h
    unfold gLstF at e
    split at e
    · rename_i ds e1
      split at e
      · rename_i hl
        obtain ⟨a, xs, rfl, g1, g2⟩ := dpt_lst R.fh (R.dat (k := T.length) (by simp) b e1)
        exact ⟨a, xs, rfl, g1, (dps_len g2).trans hl, C, E, T, ds, (R.drop.push_vals g2).rel, dps_len g2, E', e, h⟩
      · cases e
    · cases e
/-! ### how often in a list, flat items -/
def rCnt (K : PySem.W.Frag) : V → List V → Hp → VK → Prop := fun x xs H Q => ∃ (a : Addr) (ys : List V) (y : V), x = .ref a ∧ xs = [y] ∧ SqL K H a ys ∧ flatV y = true ∧ ys.all flatV = true ∧ Q (.int (ys.countP fun z => eqV z y : Nat)) H
theorem count_vals {y : V} : ∀ {ys : List V} {us : List Value}, Vals ys us → ys.all flatV = true → us.countP (eqU y) = ys.countP fun z => eqV z y
  | _, _, .nil, _ => rfl
  | _, _, .cons r t, f => by
    rw [List.all_cons, Bool.and_eq_true] at f
    rw [List.countP_cons, List.countP_cons, count_vals t f.2, eqU_of r f.1]
theorem mt_count : MtR X "list.count" (rCnt X.K) := by
  rintro pins s σ H x xs v us Q I rx rxs ⟨a, ys, y, rfl, rfl, hs, fy, fys, q⟩
  cases rx
  obtain ⟨u, rfl, ru⟩ := rxs.one
  obtain ⟨its, rv, ⟨⟨cls, dd, data, sl⟩, n, ho, hc, hdn, hd⟩, hlen⟩ := I.list hs
  simp only at hc hd
  subst hc hd
  refine call_meets PySem.F.slot_list_count ⟨_, ho, rfl⟩ PySem.F.entry_list_count (PySem.F.args_list_count_2 _ _) (SeqAt.list_countAt a its.toArray n dd sl u (eqU y)) ⟨ho, fun w hw => mem_eqAt ru fy rv fys w (by simpa using hw), ?_⟩
  have ec : its.toArray.toList.countP (eqU y) = ys.countP fun z => eqV z y := count_vals rv fys
  rw [ec]
  exact ⟨.int (ys.countP fun z => eqV z y : Nat), H, I.tok _, ⟨s.toks, rfl⟩, q⟩
end
def countF : D → List D → Option Rv := fun d as => match d, as with
  | .list ds, [x] => if flatD x = true ∧ ds.all flatD = true then some (.val (.int (ds.countP fun z => eqD z x : Nat))) else none
  | _, _ => none
theorem countP_dps {K : PySem.W.Frag} {F : Hp} {y : V} {x : D} (hy : Dp K F y x) (fx : flatD x = true) : ∀ {vs : List V} {ds : List D}, DpAll K F vs ds → ds.all flatD = true → (vs.countP fun z => eqV z y) = ds.countP fun z => eqD z x
  | _, _, .nil, _ => rfl
  | _, _, .cons h hs, f => by
    rw [List.all_cons, Bool.and_eq_true] at f
    rw [List.countP_cons, List.countP_cons, countP_dps hy fx hs f.2, eq_dp h hy f.1 fx]
theorem count_ok {K : PySem.W.Frag} : BmR K (rCnt K) countF := fun F H x xs a as rv Q hs ha hb e g => by
  unfold countF at e
  split at e
  · split at e
    · rename_i hl
      cases e
      obtain ⟨p, us, rfl, h1, h2⟩ := dpt_lst hs ha
      obtain ⟨y, rfl, hy⟩ := dpts1 hb
      have hy' := flat_dpt hy hl.1
      refine ⟨p, us, y, rfl, rfl, h1, flat_dp hy' hl.1, flat_dps h2 hl.2, ?_⟩
      rw [countP_dps hy' hl.1 h2 hl.2]
      exact g.int
    · cases e
  · cases e
@[simp] theorem e_gLst (n : Nat) (gs : List D → SEnv → Option SEnv) (r : Ret) (E : SEnv) : gLstF n gs r E = match dat E r with
  | some (.list ds) => if ds.length = n then gs ds E else none
  | _ => none := rfl
end MP

open PySem PySem.Spec L2
namespace MP
/-! ### is None of what a name holds, as a test -/
section
variable {X : Cx} {cl : Cl} {W : WX} {pos : Pos}
theorem den_isNEt (i : Nat) {x : Str} {j : Nat} {p q : Pos} (hN : X.N[i]? = some x := by rfl) (hv : Vis X.env.scope x := by first | exact Or.inl rfl | exact Or.inr (Or.inl rfl) | exact Or.inr (Or.inr rfl)) (hd : (x == ("__debug__" : Str)) = false := by decide)
    (hcd : (x == ("__classdict__" : Str)) = false := by decide) : PT X (.Compare (.Name x q) [.Is] [.Constant .none j p] pos) (tMT X.K cl W (mBl (mIsNE i))) := pt_ofC (pc_isN (pe_var hN hv hd hcd)) (fun σ H Q h => by
  obtain ⟨C, E, T, ⟨F, ρ, R⟩, h⟩ := h
  unfold mIsNE at h
  split at h
  · rename_i x e
    obtain ⟨w, hw⟩ := slot_there R e
    obtain ⟨a, rfl, _⟩ := R.sl i w _ hw e
    exact ⟨.ref a, hw, h (.bl false) H (R.push_val (.bl false)).rel trivial⟩
  · rename_i d e
    obtain ⟨w, hw⟩ := slot_there R e
    obtain ⟨a, rfl, hd⟩ := R.sl i w _ hw e
    refine ⟨a, hw, ?_⟩
    show Q (.bl (decide (a = .non))) H
    rw [dpt_non (dpt_of hd R.fh)]
    exact h _ H (R.push_val (.bl _)).rel trivial
  · exact h.elim) rfl
theorem den_notNEt (i : Nat) {x : Str} {j : Nat} {p q : Pos} (hN : X.N[i]? = some x := by rfl) (hv : Vis X.env.scope x := by first | exact Or.inl rfl | exact Or.inr (Or.inl rfl) | exact Or.inr (Or.inr rfl)) (hd : (x == ("__debug__" : Str)) = false := by decide)
    (hcd : (x == ("__classdict__" : Str)) = false := by decide) : PT X (.Compare (.Name x q) [.IsNot] [.Constant .none j p] pos) (tMT X.K cl W (mBl (mNotNE i))) := pt_ofC (pc_notN (pe_var hN hv hd hcd)) (fun σ H Q h => by
  obtain ⟨C, E, T, ⟨F, ρ, R⟩, h⟩ := h
  unfold mNotNE at h
  split at h
  · rename_i x e
    obtain ⟨w, hw⟩ := slot_there R e
    obtain ⟨a, rfl, _⟩ := R.sl i w _ hw e
    exact ⟨.ref a, hw, h (.bl true) H (R.push_val (.bl true)).rel trivial⟩
  · rename_i d e
    obtain ⟨w, hw⟩ := slot_there R e
    obtain ⟨a, rfl, hd⟩ := R.sl i w _ hw e
    refine ⟨a, hw, ?_⟩
    show Q (.bl (!decide (a = .non))) H
    rw [dpt_non (dpt_of hd R.fh)]
    exact h _ H (R.push_val (.bl _)).rel trivial
  · exact h.elim) rfl
end
@[simp] theorem e_isNE (i : Nat) (E : SEnv) : mIsNE i E = match E[i]? with
  | some (.exc _) => .ok (.val (.bool false)) E
  | some (.val d) => .ok (.val (.bool (isNon d))) E
  | _ => .no := rfl
@[simp] theorem e_notNE (i : Nat) (E : SEnv) : mNotNE i E = match E[i]? with
  | some (.exc _) => .ok (.val (.bool true)) E
  | some (.val d) => .ok (.val (.bool (!isNon d))) E
  | _ => .no := rfl
end MP

open PySem PySem.Spec L2
namespace MP
/-! ### a, b = (x, y) of whole numbers -/
def mPar (i j : Nat) (ma : M (List Ret)) : M Fl := fun E => (ma E).bind fun rs E1 => match dats E1 rs with
  | some [.int a, .int b] => (match mStore i (.val (.int a)) E1 with
    | some E2 => (match mStore j (.val (.int b)) E2 with
      | some E3 => .ok .nx E3
      | none => .no)
    | none => .no)
  | _ => .no
section
variable {X : Cx} {cl : Cl} {W : WX} {pos : Pos} {ma : M (List Ret)}
theorem den_par (i j : Nat) {x y : Str} {a b : Expr} {px py pt : Pos} {kt k2 : Nat} {pt2 : Pos} (hc : X.calm = true) (hN : X.N.Nodup) (ha : PA X [a, b] (tMA X.K cl W ma)) (hi : X.N[i]? = some x := by rfl) (hj : X.N[j]? = some y := by rfl) (hij : i ≠ j := by decide)
    (hx : X.env.scope.names.lookup x = some .local := by rfl) (hy : X.env.scope.names.lookup y = some .local := by rfl)
    (hw : swappedStores [.Tuple [.Name x px, .Name y py] kt pt] (.Tuple [a, b] k2 pt2) X.env = pure (some [x, y]) := by rfl)
    (hs : swapsWithSole [.Tuple [.Name x px, .Name y py] kt pt] (.Tuple [a, b] k2 pt2) pos.line X.env = pure false := by rfl) :
    PS X (.Assign [.Tuple [.Name x px, .Name y py] kt pt] (.Tuple [a, b] k2 pt2) pos) (tMS X.K cl W (mPar i j ma)) := PS.imp (ps_par hc hN hi hj hij hx hy ha hw hs) fun D σ H h => by
  obtain ⟨C, E, T, R, h⟩ := h
  refine ⟨C, E, T, R, (RunS.bind h).run fun rs E1 h1 vs H1 R1 b1 => ?_⟩
  obtain ⟨F, ρ, RF⟩ := R1
  split at h1
  case h_2 => exact (h1 : False).elim
  rename_i n m q
  have hd := RF.dats rfl b1 q
  cases hd with
  | cons d1 hd =>
    cases hd with
    | cons d2 hd =>
      cases hd with
      | nil =>
        cases dpt_int d1
        cases dpt_int d2
        refine ⟨.int n, .int m, rfl, ?_⟩
        split at h1
        case h_2 => exact (h1 : False).elim
        rename_i E2 q1
        split at h1
        case h_2 => exact (h1 : False).elim
        rename_i E3 q2
        obtain ⟨F', ρ', _, R'⟩ := (RF.drop.push_val (v := V.int n) (.int n)).store trivial q1
        obtain ⟨F2, ρ2, _, R2⟩ := (R'.push_val (v := V.int m) (.int m)).store trivial q2
        exact h1 _ _ R2.rel
end
@[simp] theorem e_par (i j : Nat) (ma : M (List Ret)) (E : SEnv) : mPar i j ma E = (ma E).bind fun rs E1 => match dats E1 rs with
  | some [.int a, .int b] => (match mStore i (.val (.int a)) E1 with
    | some E2 => (match mStore j (.val (.int b)) E2 with
      | some E3 => .ok .nx E3
      | none => .no)
    | none => .no)
  | _ => .no := rfl
end MP

open PySem PySem.Spec L2
namespace MP
/-! ### enumerate of a tuple -/
section
open PySem.Sem (wp)
open PySem.AutoSeq1 (wpAny_loadPart')
theorem meets_enumT (l : Addr) (items : Array Value) (n : Nat) (dct : Option Addr) (sl : Array (Option Value)) :
    Meets (Builtin.«enumerate.__new__» ⟨[.type "enumerate", .ref l], []⟩) (fun _ R s => s.heap.get? l = some { cls := .type "tuple", dict := dct, data := .seq items n, slots := sl } ∧
      R (.ok (.ret (.ref (s.heap.push { cls := .type "tuple_iterator", data := .fields #[.ref l, .int 0 0] }).objs.size)))
        { s with heap := (s.heap.push { cls := .type "tuple_iterator", data := .fields #[.ref l, .int 0 0] }).push { cls := .type "enumerate", data := .fields #[.none, .bool false, .ref s.heap.objs.size, rawInt 0, .none, .none] } }) :=
  .of_wp fun prog w A R s h => by
    obtain ⟨hp, g, d, tk, os⟩ := s; obtain ⟨hl, h⟩ := h
    have hsub := sub_enumerate
    have hL : Heap.IsTuple (Shared.heap ⟨hp, g, d, tk, os⟩) l items := ⟨_, hl, rfl, n, rfl⟩
    wp_walk using wpAny_loadPart' hl
    refine wpAny_stack_any fun st => wpAny_pure ?_
    split
    · rename_i c _ _ _ _ _
      cases (c == Value.type "enumerate")
      · wp_walk using wpAny_loadPart' hl, wpAny_pyIter_tuple hL
        exact ⟨_, rfl, h⟩
      · wp_walk using wpAny_loadPart' hl, wpAny_pyIter_tuple hL
        exact ⟨_, rfl, h⟩
    · wp_walk using wpAny_loadPart' hl, wpAny_pyIter_tuple hL
      exact ⟨_, rfl, h⟩
end
section
variable {prog : Program} {w : World} {A : Around} {E : Value → Shared → Prop} {s : Shared}
theorem call_enumT {l : Addr} {items : Array Value} {Q : Value → Shared → Prop} (hL : s.heap.IsTuple l items)
    (h : ∀ h', IsEnum h' (s.heap.objs.size + 1) s.heap.objs.size 0 .none → h'.IsTupleIter s.heap.objs.size l 0 → h'.objs.size = s.heap.objs.size + 2 →
      (∀ b o, s.heap.get? b = some o → h'.get? b = some o) → Q (.ref (s.heap.objs.size + 1)) { s with heap := h' }) :
    wpAny (model prog w) A (call (.type "enumerate") [.ref l]) Q E s := by
  obtain ⟨⟨c, dct, dt, sl⟩, hl, hc, n, hd⟩ := hL
  replace hc : c = .type "tuple" := hc
  replace hd : dt = .seq items n := hd
  subst hc hd
  refine callType_new F.called_enumerate (by decide) (F.typeCall_enumerate_1 _) (F.newCall_enumerate_1 _) (fun obj => F.args_object_init_2 obj _) F.entry_enumerate_new
    (meets_enumT l items n dct sl) ⟨hl, ?_⟩
  have hz : (s.heap.push { cls := .type "tuple_iterator", data := .fields #[.ref l, .int 0 0] }).objs.size = s.heap.objs.size + 1 := Heap.size_push ..
  show _ ∧ _
  rw [hz]
  have he : IsEnum ((s.heap.push { cls := .type "tuple_iterator", data := .fields #[.ref l, .int 0 0] }).push
      { cls := .type "enumerate", data := .fields #[.none, .bool false, .ref s.heap.objs.size, rawInt 0, .none, .none] }) (s.heap.objs.size + 1) s.heap.objs.size 0 .none := by
    have := Heap.get?_push_size (s.heap.push { cls := .type "tuple_iterator", data := .fields #[.ref l, .int 0 0] })
      (o := { cls := .type "enumerate", data := .fields #[.none, .bool false, .ref s.heap.objs.size, rawInt 0, .none, .none] }) rfl
    rw [hz] at this; exact this
  refine ⟨⟨_, he, rfl⟩, h _ he ⟨_, Heap.get?_push_of_some _ (Heap.get?_push_size _ rfl), rfl, rfl⟩ (by rw [Heap.size_push, hz]) fun b o x => Heap.get?_push_of_some _ (Heap.get?_push_of_some _ x)⟩
end
section
variable {prog : Program} {w : World} {A : Around} {E : Value → Shared → Prop} {s : Shared}
theorem enumT_end {e it t : Addr} {items : Array Value} {i : Int} {j : Nat} {old : Value} {Q : Option Value → Shared → Prop} (hh : A.in1.handled = none)
    (he : IsEnum s.heap e it i old) (hit : s.heap.IsTupleIter it t j) (ht : s.heap.IsTuple t items) (hx : items[j]? = none)
    (hQ : ∀ h', Heap.ExtBut it s.heap h' → Q none { s with heap := h' }) : wpAny (model prog w) A (pyNext (.ref e)) Q E s := by
  have hT : s.TypeIs (.ref e) "enumerate" := ⟨_, he, rfl⟩
  unfold pyNext
  refine wpAny_bind (wpAny_attempt (wpAny_callSpecial?_slot (name := Str.ofString "__next__") hT F.slot_enumerate_next
    (wpAny_call_entry F.slot_enumerate_next hT F.entry_enumerate_next ?_ (F.args_enumerate_next_1 _))))
  show wpAny _ _ (field (.ref e) 2 >>= _) _ _ _
  refine wpAny_bind (wpAny_field he rfl (x := .ref it) rfl ?_)
  refine wpAny_bind (wpAny_nextOf_tuple_end hh hit ht hx fun h' x he' hx' => ?_)
  obtain ⟨o, ho, hc⟩ := hx'
  refine wpAny_bind (wpAny_isInstance (T := "StopIteration") (b := true) ⟨o, ho, hc⟩ isSubtype_stop ?_)
  exact wpAny_pure (hQ _ he')
end
def IteT (K : PySem.W.Frag) (a : Addr) : It :=
  ⟨fun i H => ∃ (xs : List V) (x : V), SqT K H a xs ∧ xs[i]? = some x, fun i H v H' => ∃ T x, ∃ ob : Obj, ob.dict = none ∧ v = .ref T ∧ H T = none ∧ H' = upd H T (.frz ob (.tup [.int (i : Nat), x])) ∧ ∀ xs, SqT K H a xs → xs[i]? = some x, fun i H => ∃ xs : List V, SqT K H a xs ∧ xs.length ≤ i⟩
theorem turn_enumT {P : Program} {w : World} {K : PySem.W.Frag} {elts : List Expr} {kk : Nat} {tpos : Pos} (a e it : Addr) (hae : a ≠ e) (hai : a ≠ it) :
    Turn P w K (.Tuple elts kk tpos) (IteT K a) [e, it] e (fun i h => (∃ old, IsEnum h e it ((i : Nat) : Int) old) ∧ h.IsTupleIter it a i ∧ e ≠ it) where
  mem := by simp
  obj := fun i h st b hb => by
    obtain ⟨⟨old, he⟩, ⟨o, ho, hc, hd⟩, _⟩ := st
    have e' : b = e ∨ b = it := by simpa using hb
    rcases e' with z | z
    · rw [z]; exact ⟨_, he, fun v q => nomatch q⟩
    · rw [z]; exact ⟨o, ho, fun v q => by rw [hd] at q; cases q⟩
  keep := fun i h h' st k => let ⟨⟨old, he⟩, hi, hne⟩ := st; ⟨⟨old, k e (by simp) _ he⟩, hi.at fun o q => k it (by simp) o q, hne⟩
  item := by
    intro X hP hw hK hc i pins s σ H E I hf st hg
    subst hP hw hK
    obtain ⟨⟨old, he⟩, hit, hne⟩ := st
    obtain ⟨xs, x, hq, hx⟩ := hg
    obtain ⟨its, rv, p, hz⟩ := I.tuple hq
    obtain ⟨u, hu, ru⟩ := rv.get hx
    have hlt := List.getElem?_eq_some_iff.mp hu |>.1
    have hel : e < s.heap.objs.size := Heap.lt_size he
    have hil : it < s.heap.objs.size := by obtain ⟨_, q, _⟩ := hit; exact Heap.lt_size q
    have D := Draws.tuple (prog := X.prog) (w := X.w) (A := X.A.in1) (show X.A.in1.handled = none from I.ok.hd hc) it a hai its.toArray
    refine wpAny_pyNext_enum_itemD D he ⟨hit, (show s.heap.IsTuple a its.toArray from p)⟩ (by simpa using hlt) hne (by simp [hne, Ne.symm hae]) fun y h' tk hy ho hst hT hsz hk => ?_
    obtain ⟨hit', htup'⟩ := hst
    have hyu : y = u := by
      have hy' : its[i]? = some y := by simpa using hy
      rw [hu] at hy'
      exact (Option.some.inj hy').symm
    subst hyu
    refine ⟨_, rfl, wpAny_letOwnedTupleGo_enum (s := { s with heap := h', toks := tk + 1 }) ho fun h'' he' sb => ?_⟩
    have hT2 : h''.get? s.heap.objs.size = some { cls := .type "tuple", data := .seq #[.int i tk, y] } := (sb.2 _ (Nat.ne_of_gt hel)).trans hT
    have new : ObjOk X.prog X.w (upd H s.heap.objs.size (.frz { cls := .type "tuple", data := .seq #[.int i tk, y] } (.tup [.int (i : Nat), x]))) h'' s.heap.objs.size (.frz { cls := .type "tuple", data := .seq #[.int i tk, y] } (.tup [.int (i : Nat), x])) :=
      ⟨hT2, by show 2 ≤ sizeLine; decide, [.int i tk, y], .cons ⟨_, rfl⟩ (.cons ru .nil), ⟨_, hT2, rfl, _, rfl⟩⟩
    have I1 : Inv X pins σ (upd H s.heap.objs.size (.frz { cls := .type "tuple", data := .seq #[.int i tk, y] } (.tup [.int (i : Nat), x]))) { s with heap := h'', toks := tk + 1 } :=
      I.turnedNew (ch := [e, it]) (fun b ob hb q => (sb.2 b (fun z => hb (by simp [z]))).trans (hk b ob (fun z => hb (by simp [z])) (fun z => hb (by simp [z])) q)) hf (Nat.le_refl _) new
    refine ⟨.ref s.heap.objs.size, _, I1, rfl, ⟨_, x, _, rfl, rfl, I.hok.fresh (Nat.le_refl _), rfl, fun ys hy => by rw [I.tuple_inj hy hq]; exact hx⟩, ⟨⟨y, ?_⟩, hit'.at fun o q => (sb.2 it (Ne.symm hne)).trans q, hne⟩, fun b hb => ?_⟩
    · have e1 : ((i + 1 : Nat) : Int) = (i : Int) + 1 := by omega
      rw [e1]; exact he'
    · have hb' : b < s.heap.objs.size := by
        have e' : b = e ∨ b = it := by simpa using hb
        rcases e' with z | z
        · rw [z]; exact hel
        · rw [z]; exact hil
      rw [upd_ne (Nat.ne_of_lt hb')]
      exact (hf b hb).1
  done := by
    intro X hP hw hK hc i pins s σ H E I hf st hg
    subst hP hw hK
    obtain ⟨⟨old, he⟩, hit, hne⟩ := st
    obtain ⟨xs, hq, hx⟩ := hg
    obtain ⟨its, rv, p, hz⟩ := I.tuple hq
    obtain ⟨f0, f1, f2, f3, f4, f5⟩ := hf it (by simp)
    have hl := rv.length
    exact enumT_end (show X.A.in1.handled = none from I.ok.hd hc) he hit (show s.heap.IsTuple a its.toArray from p) (by simp; omega) fun h' eb => ⟨rfl, I.turned (t' := s.toks) (fun b o hb q => eb b o hb q) f0 f1 f3 f4 f5⟩
  self := fun A i s Q E st h => let ⟨⟨_, he⟩, _⟩ := st; wpAny_pyIter_enum he h
def iEnumT (K : PySem.W.Frag) (ta : TA) : TI := fun σ H R => ta σ H fun vs H1 => ∃ a xs, vs = [.ref a] ∧ SqT K H1 a xs ∧ R (IteT K a) H1
theorem pi_enumT {X : Cx} {e : Expr} {ta : TA} {p pos tpos : Pos} {elts : List Expr} {kk : Nat} (hg : Gl X "enumerate") (hm : X.mg "enumerate" = none) (ha : PA X [e] ta) (hs : starEach [e] X.env = [(false, eval e X.env)] := by rfl) :
    PI X (.Tuple elts kk tpos) (.Call (.Name "enumerate" p) [e] [] pos) (iEnumT X.K ta) := by
  refine ⟨fun pins s σ H R I h => ?_⟩
  refine PyProof.Rows.Call_ (ld_blt I hg hm PyProof.Rows.boot_enumerate (PyProof.Rows.callWith_type1 (thn (ha.run pos pins s σ H _ I h) fun us s1 ⟨vs, H1, I1, r1, q1⟩ => ?_) hs rfl))
  obtain ⟨a, xs, ex, hq, q⟩ := q1
  subst ex
  cases r1 with
  | cons r rr =>
    cases rr
    cases r
    obtain ⟨its, rv, p', hz⟩ := I1.tuple hq
    have hat : a < s1.heap.objs.size := by
      obtain ⟨o, ho, _⟩ := p'
      exact Heap.lt_size ho
    refine call_enumT (show s1.heap.IsTuple a its.toArray from p') fun h' he hit hsz hk => wpAny_pyIter_enum he ?_
    have I2 : Inv X pins σ H1 { s1 with heap := h' } := I1.kept (t' := s1.toks) hk
    refine ⟨s1.heap.objs.size + 1, [s1.heap.objs.size + 1, s1.heap.objs.size], _, _, H1, rfl, I2, turn_enumT a (s1.heap.objs.size + 1) s1.heap.objs.size (Nat.ne_of_lt (Nat.lt_succ_of_lt hat)) (Nat.ne_of_lt hat), ⟨⟨.none, he⟩, hit, Nat.succ_ne_self _⟩, fun b hb => ?_, q⟩
    have e' : b = s1.heap.objs.size + 1 ∨ b = s1.heap.objs.size := by simpa using hb
    have hle : s1.heap.objs.size ≤ b := by
      rcases e' with z | z
      · rw [z]; exact Nat.le_add_right _ _
      · rw [z]; exact Nat.le_refl _
    exact I1.fpOk hle (I1.hok.fresh hle)
theorem walks_enumT {K : PySem.W.Frag} {F : Hp} {a : Addr} {xs : List V} {ds : List D} (h : DpAll K F xs ds) : Walks K F (IteT K a) (enumD 0 ds) (fun H => SqT K H a xs) where
  goes := fun i H hi g => ⟨xs, xs[i]'(by rw [dps_len h, ← enumD_len 0 ds]; exact hi), g, List.getElem?_eq_getElem _⟩
  stops := fun H g => ⟨xs, g, by rw [dps_len h, ← enumD_len 0 ds]; exact Nat.le_refl _⟩
  yields := fun i d H x H' e g y => by
    obtain ⟨T, z, ob, nob, rfl, hn, rfl, y⟩ := y
    obtain ⟨d', e1, rfl⟩ := enumD_get ds 0 i d e
    obtain ⟨v, e2, h2⟩ := dps_get h e1
    have := (y xs g).symm.trans e2
    cases this
    exact .inr ⟨T, [.int (i : Nat), z], [.int (i : Nat), d'], ob, nob, by rw [Nat.zero_add], rfl, hn, rfl, .cons (.int _) (.cons h2 .nil)⟩
def mEnumT (ms : M (List Ret)) : MI := fun E => (ms E).bind fun rs E1 => match takes E1 rs with
  | some ([.tuple ds], E2) => .ok (enumD 0 ds, none) E2
  | _ => .no
section
variable {X : Cx} {cl : Cl} {W : WX} {e : Expr} {p pos tpos : Pos} {elts : List Expr} {kk : Nat} {ms : M (List Ret)}
theorem den_enumT (hg : Gl X "enumerate") (hm : X.mg "enumerate" = none) (ha : PA X [e] (tMA X.K cl W ms)) (hs : starEach [e] X.env = [(false, eval e X.env)] := by rfl) :
    PI X (.Tuple elts kk tpos) (.Call (.Name "enumerate" p) [e] [] pos) (tMI X.K cl W (mEnumT ms)) := PI.imp (pi_enumT hg hm ha hs) fun σ H R h => by
  obtain ⟨C, E, T, R0, h⟩ := h
  refine ⟨C, E, T, R0, (Run.bind h).imp fun rs E1 h1 vs H1 R1 b1 => ?_⟩
  split at h1
  · rename_i ds E2 e1
    obtain ⟨F, ρ, RF⟩ := R1
    obtain ⟨F2, f2, R2, d2⟩ := RF.takes b1 e1
    obtain ⟨v, rfl, hv⟩ := dps1 d2
    have ⟨a, us, ev, g1, g2⟩ : ∃ a us, v = .ref a ∧ SqT X.K F2 a us ∧ DpAll X.K F2 us ds := by
      cases hv with
      | tup g1 g2 => exact ⟨_, _, rfl, g1.sq, g2⟩
    subst ev
    exact ⟨a, us, rfl, MP.Same.seqT R2.fh g1, h1 _ H1 F2 ρ _ R2 (walks_enumT g2) (fun F' H'' e1 e2 _ => MP.Same.seqT (L2.Same.trans e1 e2) g1) (fun _ z => nomatch z)⟩
  · exact h1.elim
end
@[simp] theorem e_enumT (ms : M (List Ret)) (E : SEnv) : mEnumT ms E = (ms E).bind fun rs E1 => match takes E1 rs with
  | some ([.tuple ds], E2) => .ok (enumD 0 ds, none) E2
  | _ => .no := rfl
end MP

open PySem PySem.Spec L2
namespace MP
open PyProof.Rows
/-! ### t.index(x), t a tuple of whole numbers -/
section
variable {X : Cx} {o e : Expr} {es : List Expr} {to : TE} {t : TA} {name : Str} {apos cpos : Pos} {id : String} {r : V → List V → Hp → VK → Prop}
def tBMT (r : V → List V → Hp → VK → Prop) (to : TE) (t : TA) : TE := fun σ H Q => to σ H fun x H1 => (∃ p xs, x = .ref p ∧ TupN H1 p xs) ∧ t σ H1 fun xs H2 => r x xs H2 Q
theorem pe_bmT (pa : PlainAttrs "tuple") (slot : PySem.Slot "tuple" name id) (hty : typeOf (.builtin id) = pure (.type "method_descriptor")) (hm : MtR X id r) (ho : PE X o to) (ha : PA X (e :: es) t)
    (hbase : attributeBase o name X.env (eval o X.env) = eval o X.env := by rfl)
    (hfew : ((backTo cpos (starEach (e :: es) X.env)).all (fun x => !x.1) && (backToKw cpos (keywordEach [] X.env)).all (fun x => x.1.isSome)
      && decide ((e :: es).length + ([] : List Keyword).length + (if ([] : List Keyword).isEmpty then 0 else 1) < 30)) = true := by rfl)
    (hline : (apos.endLine == cpos.line) = true := by rfl) (hs : starEach (e :: es) X.env = (false, eval e X.env) :: starEach es X.env := by rfl) (hplain : (backTo cpos (starEach es X.env)).any (·.1) = false := by rfl) :
    PE X (.Call (.Attribute o name apos) (e :: es) [] cpos) (tBMT r to t) := by
  refine ⟨fun pins s σ H Q I h => ?_⟩
  refine wpAny_Call_method_late hbase hfew hline rfl (thn (ho.run pins s σ H _ I h) fun v s1 ⟨x, H1, I1, r1, ty, q1⟩ => ?_)
  obtain ⟨p, xs, rfl, ob, nob, hp⟩ := ty
  obtain rfl : v = .ref p := r1
  have hO : ObjOk X.prog X.w H1 s1.heap p (.frz ob (.tup xs)) := I1.hok p _ hp
  obtain ⟨hg, hz, its, rv, o2, ho2, hc2, n2, hd2⟩ := hO
  refine ⟨"tuple", id, pa, slot, hty, ⟨o2, ho2, hc2⟩, fun a z => ?_, ?_⟩
  · cases z
    exact ⟨ob, hg, nob⟩
  have hA := ha.run cpos pins s1 σ H1 _ I1 q1
  rw [hs] at hA ⊢
  refine Calls.callWith_builtin (by show (false || (backTo cpos (starEach es X.env)).any (·.1)) = false; rw [hplain] <;> rfl) (Calls.evalArgs_plain ?_)
  exact thn hA fun us s2 ⟨vs, H2, I2, r2, q2⟩ => hm pins s2 σ H2 (.ref p) vs _ us Q I2 rfl r2 q2
def rTIndex (K : PySem.W.Frag) : V → List V → Hp → VK → Prop := fun x xs H Q => ∃ (a : Addr) (is : List Int) (k : Int), x = V.ref a ∧ xs = [.int k] ∧ SqT K H a (is.map V.int) ∧ k ∈ is ∧ Q (.int (is.idxOf k : Nat)) H
theorem mt_tindex : MtR X "tuple.index" (rTIndex X.K) := by
  intro pins s σ H x xs v us Q I rx rxs h
  obtain ⟨a, is, k, rfl, rfl, hs, hk, q⟩ := h
  cases rx
  obtain ⟨u, rfl, ru⟩ := Vals.one rxs
  obtain ⟨tk, rfl⟩ := ru
  obtain ⟨its, rv, p, hz⟩ := I.tuple hs
  exact PySem.SeqAt.tuple_index_ints (show s.heap.IsTuple a its.toArray from p) (Vals.ints rv) hk ⟨.int _, H, I.tok _, ⟨_, rfl⟩, q⟩
end
def isT (d : Option D) : Bool := match d with
  | some (.tuple _) => true
  | _ => false
def mBmT (f : D → List D → Option Rv) (a : M Ret) (as : M (List Ret)) : M Ret := fun E => (a E).bind fun r E1 => if isT (dat E1 r) = true then (as E1).bind fun rs E2 => (match dat E2 r, dats E2 rs with
  | some d, some ds => retO (f d ds) E2
  | _, _ => .no) else .no
noncomputable def tindexF : D → List D → Option Rv := fun d as => match d, as with
  | .tuple ds, [.int k] => (match intsOf ds with
    | some is => if Ok (k ∈ is) then some (.val (.int (is.idxOf k : Nat))) else none
    | none => none)
  | _, _ => none
theorem dpt_tupN {K : PySem.W.Frag} {F H : Hp} {v : V} {ds : List D} (hs : Same F H) (h : DpT K F H v (.tuple ds)) : ∃ a xs, v = .ref a ∧ TupN H a xs ∧ DpAll K F xs ds := by
  cases (show Dp K F v _ from h) with
  | tup h1 h2 => exact ⟨_, _, rfl, h1.mono hs, h2⟩
theorem tindex_ok {K : PySem.W.Frag} : BmR K (rTIndex K) tindexF := fun F H x xs a as rv Q hs ha hb e g => by
  unfold tindexF at e
  split at e
  · rename_i ds k
    split at e
    · rename_i is ei
      split at e
      · rename_i hk
        cases e
        obtain ⟨p, us, rfl, h1, h2⟩ := dpt_tup hs ha
        obtain ⟨y, rfl, hy⟩ := dpts1 hb
        obtain rfl := dpt_int hy
        rw [intsOf_eq ei] at h2
        rw [dps_ints h2] at h1
        exact ⟨p, is, k, rfl, rfl, h1, hk, g.int⟩
      · cases e
    · cases e
  · cases e
section
variable {X : Cx} {cl : Cl} {W : WX} {o e : Expr} {es : List Expr} {apos cpos : Pos} {ma : M Ret} {ms : M (List Ret)}
theorem den_bmT {name : Str} {id : String} {r : V → List V → Hp → VK → Prop} {f : D → List D → Option Rv} (slot : PySem.Slot "tuple" name id) (hty : typeOf (.builtin id) = pure (.type "method_descriptor")) (hm : MtR X id r) (hf : BmR X.K r f) (ho : PE X o (tM X.K cl W ma)) (ha : PA X (e :: es) (tMA X.K cl W ms))
    (pa : PlainAttrs "tuple" := by exact F.plainAttrs_tuple) (hbase : attributeBase o name X.env (eval o X.env) = eval o X.env := by rfl)
    (hfew : ((backTo cpos (starEach (e :: es) X.env)).all (fun x => !x.1) && (backToKw cpos (keywordEach [] X.env)).all (fun x => x.1.isSome)
      && decide ((e :: es).length + ([] : List Keyword).length + (if ([] : List Keyword).isEmpty then 0 else 1) < 30)) = true := by rfl)
    (hline : (apos.endLine == cpos.line) = true := by rfl) (hs : starEach (e :: es) X.env = (false, eval e X.env) :: starEach es X.env := by rfl) (hplain : (backTo cpos (starEach es X.env)).any (·.1) = false := by rfl) :
    PE X (.Call (.Attribute o name apos) (e :: es) [] cpos) (tM X.K cl W (mBmT f ma ms)) := PE.imp (pe_bmT pa slot hty hm ho ha hbase hfew hline hs hplain) fun σ H Q h => by
  obtain ⟨C, E, T, R, h⟩ := h
  refine ⟨C, E, T, R, (Run.bind h).imp fun r1 E1 h1 v1 H1 R1 b1 => ?_⟩
  split at h1
  case isFalse => exact h1.elim
  rename_i hg
  obtain ⟨F1, ρ1, RF1⟩ := _root_.id R1
  have ht : ∃ p xs, v1 = .ref p ∧ TupN H1 p xs := by
    unfold isT at hg
    split at hg
    · rename_i ds ed
      obtain ⟨a, us, rfl, g1, g2⟩ := dpt_tupN RF1.fh (RF1.dat (k := T.length) (by simp) b1 ed)
      exact ⟨a, us, rfl, g1⟩
    · cases hg
  refine ⟨ht, C, E1, _, R1, (Run.bind h1).go fun rs E2 h2 vs H2 R2 b2 => ?_⟩
  split at h2
  · rename_i d ds e1 e2
    obtain ⟨rv, e3, p⟩ := retO_run h2
    obtain ⟨F, ρ, RF⟩ := R2
    have hz : (T ++ [(v1, r1)] ++ vs.zip rs)[T.length]? = some (v1, r1) := by simp
    exact hf F H2 v1 vs d ds rv Q RF.fh (RF.dat hz b1 e1) (RF.dats rfl b2 e2) e3 (gives (T' := [(v1, r1)] ++ vs.zip rs) (by simpa using RF) p)
  · exact h2.elim
end
@[simp] theorem e_bmT (f : D → List D → Option Rv) (a : M Ret) (as : M (List Ret)) (E : SEnv) : mBmT f a as E = (a E).bind fun r E1 => if isT (dat E1 r) = true then (as E1).bind fun rs E2 => (match dat E2 r, dats E2 rs with
  | some d, some ds => retO (f d ds) E2
  | _, _ => .no) else .no := rfl
@[simp] theorem isT_tuple (ds : List D) : isT (some (.tuple ds)) = true := rfl
theorem f_tindex {as : List Nat} {k : Nat} (h : k ∈ as) : tindexF (.tuple (as.map nt)) [.int (k : Int)] = some (.val (.int (as.idxOf k : Nat))) := by
  unfold tindexF
  have hm : (k : Int) ∈ as.map fun (n : Nat) => (n : Int) := List.mem_map.mpr ⟨k, h, rfl⟩
  have hi : ∀ l : List Nat, (l.map fun (n : Nat) => (n : Int)).idxOf (k : Int) = l.idxOf k := by
    intro l
    induction l with
    | nil => rfl
    | cons a l ih =>
      rw [List.map_cons, List.idxOf_cons, List.idxOf_cons, ih]
      by_cases q : a = k
      · subst q; rw [beq_self_eq_true, beq_self_eq_true]
      · have q2 : ((a : Int) == (k : Int)) = false := beq_eq_false_iff_ne.mpr (by omega)
        have q3 : (a == k) = false := beq_eq_false_iff_ne.mpr q
        rw [q2, q3]
  show (match intsOf (as.map nt) with
    | some is => if Ok ((k : Int) ∈ is) then some (Rv.val (.int (is.idxOf (k : Int) : Nat))) else none
    | none => none) = _
  rw [intsOf_nt]
  show (if Ok ((k : Int) ∈ as.map fun (n : Nat) => (n : Int)) then some (Rv.val (.int ((as.map fun (n : Nat) => (n : Int)).idxOf (k : Int) : Nat))) else none) = _
  rw [ok_pos hm, hi]
end MP

namespace L_k40
open PySem PySem.Spec L2 MP
abbrev s__law_cell : Stmt := PySem.Challenge.pw_ownboxes_k40_the_plain_dealing.main.body.getD 18 (.Pass ⟨0, 0, 0, 0⟩)
abbrev s__law_size : Stmt := PySem.Challenge.pw_ownboxes_k40_the_plain_dealing.main.body.getD 20 (.Pass ⟨0, 0, 0, 0⟩)
abbrev s__law_order : Stmt := PySem.Challenge.pw_ownboxes_k40_the_plain_dealing.main.body.getD 19 (.Pass ⟨0, 0, 0, 0⟩)
abbrev s__law_openings : Stmt := PySem.Challenge.pw_ownboxes_k40_the_plain_dealing.main.body.getD 22 (.Pass ⟨0, 0, 0, 0⟩)
abbrev s_turned_back : Stmt := PySem.Challenge.pw_ownboxes_k40_the_plain_dealing.main.body.getD 7 (.Pass ⟨0, 0, 0, 0⟩)
abbrev s_plain_dealing : Stmt := PySem.Challenge.pw_ownboxes_k40_the_plain_dealing.main.body.getD 16 (.Pass ⟨0, 0, 0, 0⟩)
abbrev s__law_same : Stmt := PySem.Challenge.pw_ownboxes_k40_the_plain_dealing.main.body.getD 21 (.Pass ⟨0, 0, 0, 0⟩)
abbrev s_look_at_dealing : Stmt := PySem.Challenge.pw_ownboxes_k40_the_plain_dealing.main.body.getD 12 (.Pass ⟨0, 0, 0, 0⟩)
abbrev s_look_at_openings : Stmt := PySem.Challenge.pw_ownboxes_k40_the_plain_dealing.main.body.getD 9 (.Pass ⟨0, 0, 0, 0⟩)
abbrev s_made_openings : Stmt := PySem.Challenge.pw_ownboxes_k40_the_plain_dealing.main.body.getD 10 (.Pass ⟨0, 0, 0, 0⟩)
abbrev s_boxes_as : Stmt := PySem.Challenge.pw_ownboxes_k40_the_plain_dealing.main.body.getD 13 (.Pass ⟨0, 0, 0, 0⟩)
abbrev s_finders_as : Stmt := PySem.Challenge.pw_ownboxes_k40_the_plain_dealing.main.body.getD 15 (.Pass ⟨0, 0, 0, 0⟩)
abbrev s_opened_as : Stmt := PySem.Challenge.pw_ownboxes_k40_the_plain_dealing.main.body.getD 14 (.Pass ⟨0, 0, 0, 0⟩)
abbrev s_law : Stmt := PySem.Challenge.pw_ownboxes_k40_the_plain_dealing.main.body.getD 23 (.Pass ⟨0, 0, 0, 0⟩)
theorem sc__law_cell : FnScope ["script", "k"] ["script", "k"] (defScope s__law_cell) := ⟨rfl, rfl, rfl, by decide +kernel, rfl, by decide +kernel, by decide +kernel⟩
theorem sc__law_size : FnScope ["script", "cell"] ["script"] (defScope s__law_size) := ⟨rfl, rfl, rfl, by decide +kernel, rfl, by decide +kernel, by decide +kernel⟩
theorem sc__law_order : FnScope ["cell", "many", "names", "k"] ["cell", "many"] (defScope s__law_order) := ⟨rfl, rfl, rfl, by decide +kernel, rfl, by decide +kernel, by decide +kernel⟩
theorem sc__law_openings : FnScope ["cell", "many", "found", "k"] ["cell", "many"] (defScope s__law_openings) := ⟨rfl, rfl, rfl, by decide +kernel, rfl, by decide +kernel, by decide +kernel⟩
theorem sc_turned_back : FnScope ["order", "boxes", "box", "person"] ["order"] (defScope s_turned_back) := ⟨rfl, rfl, rfl, by decide +kernel, rfl, by decide +kernel, by decide +kernel⟩
theorem sc_plain_dealing : FnScope ["order"] ["order"] (defScope s_plain_dealing) := ⟨rfl, rfl, rfl, by decide +kernel, rfl, by decide +kernel, by decide +kernel⟩
theorem sc__law_same : FnScope ["found", "due", "k"] ["found", "due"] (defScope s__law_same) := ⟨rfl, rfl, rfl, by decide +kernel, rfl, by decide +kernel, by decide +kernel⟩
theorem sc_look_at_dealing : FnScope ["order", "dealing"] ["order", "dealing"] (defScope s_look_at_dealing) := ⟨rfl, rfl, rfl, by decide +kernel, rfl, by decide +kernel, by decide +kernel⟩
theorem sc_look_at_openings : FnScope ["people", "numbers"] ["people", "numbers"] (defScope s_look_at_openings) := ⟨rfl, rfl, rfl, by decide +kernel, rfl, by decide +kernel, by decide +kernel⟩
theorem sc_made_openings : FnScope ["people", "numbers"] ["people", "numbers"] (defScope s_made_openings) := ⟨rfl, rfl, rfl, by decide +kernel, rfl, by decide +kernel, by decide +kernel⟩
theorem sc_boxes_as : FnScope ["order", "dealing", "openings", "person", "found", "box"] ["order", "dealing", "openings", "person"] (defScope s_boxes_as) := ⟨rfl, rfl, rfl, by decide +kernel, rfl, by decide +kernel, by decide +kernel⟩
theorem sc_finders_as : FnScope ["order", "dealing", "openings", "found", "person", "boxes"] ["order", "dealing", "openings"] (defScope s_finders_as) := ⟨rfl, rfl, rfl, by decide +kernel, rfl, by decide +kernel, by decide +kernel⟩
theorem sc_opened_as : FnScope ["order", "dealing", "openings", "person"] ["order", "dealing", "openings", "person"] (defScope s_opened_as) := ⟨rfl, rfl, rfl, by decide +kernel, rfl, by decide +kernel, by decide +kernel⟩
theorem sc_law : FnScope ["script", "many", "cell", "order", "openings", "found", "person", "due", "p"] ["script"] (defScope s_law) := ⟨rfl, rfl, rfl, by decide +kernel, rfl, by decide +kernel, by decide +kernel⟩
/-! ### the functions -/
/- _law_cell: 0 script, 1 k -/
noncomputable def m__law_cell : M Fl := (mSeq (mIf (mBl (m2 ltF (mVar 1) (mN lenF (mA1 (mVar 0) mA0)))) (mRet (mN absF (mA1 (m2 ixF (mVar 0) (mVar 1)) mA0))) mNx) (mRet (mD (.int 0))))
noncomputable def fn__law_cell : List D → FR := runDef 2 2 m__law_cell
/- _law_size: 0 script, 1 cell -/
noncomputable def m__law_size : M Fl := (mSeq (mSet 1 (mCall fn__law_cell (mA1 (mVar 0) (mA1 (mD (.int 0)) mA0)))) (mSeq (mIf (mBl (m2 eqF (m2 modF (mVar 1) (mD (.int 4))) (mD (.int 1)))) (mRet (m2 addF (mD (.int 1)) (m2 modF (m2 divF (mVar 1) (mD (.int 4))) (mD (.int 60))))) mNx) (mRet (m2 addF (mD (.int 1)) (m2 modF (m2 divF (mVar 1) (mD (.int 4))) (mD (.int 12)))))))
noncomputable def fn__law_size : List D → FR := runDef 1 2 m__law_size
/- _law_order: 0 cell, 1 many, 2 names, 3 k -/
noncomputable def bd__law_order_1 : M Fl := (mSeq (mExp (guardL 2 (mMut 2 insF (mA1 (m2 modF (mVar 0) (m2 addF (mVar 3) (mD (.int 1)))) (mA1 (mVar 3) mA0))))) (mSet 0 (m2 divF (mVar 0) (m2 addF (mVar 3) (mD (.int 1))))))
noncomputable def lp__law_order_1 : M Fl := mFor (mRng rng1F (mA1 (mVar 1) mA0)) (mStore 3) bd__law_order_1
noncomputable def m__law_order : M Fl := (mSeq (mSet 2 (mLst mA0)) (mSeq lp__law_order_1 (mRet (mN tupleF (mA1 (mVar 2) mA0)))))
noncomputable def fn__law_order : List D → FR := runDef 2 4 m__law_order
/- _law_openings: 0 cell, 1 many, 2 found, 3 k -/
noncomputable def bd__law_openings_1 : M Fl := (mSeq (mExp (guardL 2 (mMut 2 appF (mA1 (m2 modF (mVar 0) (m2 addF (mVar 1) (mD (.int 1)))) mA0)))) (mSet 0 (m2 divF (mVar 0) (m2 addF (mVar 1) (mD (.int 1))))))
noncomputable def lp__law_openings_1 : M Fl := mFor (mRng rng1F (mA1 (mVar 1) mA0)) (mStore 3) bd__law_openings_1
noncomputable def m__law_openings : M Fl := (mSeq (mSet 2 (mLst mA0)) (mSeq lp__law_openings_1 (mRet (mN tupleF (mA1 (mVar 2) mA0)))))
noncomputable def fn__law_openings : List D → FR := runDef 2 4 m__law_openings
/- turned_back: 0 order, 1 boxes, 2 box, 3 person -/
noncomputable def bd_turned_back_1 : M Fl := (mTo (gSubL 1 (mVar 3)) (mVar 2))
noncomputable def lp_turned_back_1 : M Fl := mFor (mEnumT (mA1 (mVar 0) mA0)) (gTupF 2 (gs1 (mStore 2) (gs1 (mStore 3) gs0))) bd_turned_back_1
noncomputable def m_turned_back : M Fl := (mSeq (mSet 1 (mMul (mLst (mA1 (mD (.int 0)) mA0)) (mN lenF (mA1 (mVar 0) mA0)))) (mSeq lp_turned_back_1 (mRet (mN tupleF (mA1 (mVar 1) mA0)))))
noncomputable def fn_turned_back : List D → FR := runDef 1 4 m_turned_back
/- plain_dealing: 0 order -/
noncomputable def m_plain_dealing : M Fl := (mRet (mCall fn_turned_back (mA1 (mVar 0) mA0)))
noncomputable def fn_plain_dealing : List D → FR := runDef 1 1 m_plain_dealing
/- _law_same: 0 found, 1 due, 2 k -/
noncomputable def bd__law_same_1 (R : List D → FR) : M Fl := (mIf (mNot (mTru (mCall R (mA1 (m2 ixF (mVar 0) (mVar 2)) (mA1 (m2 ixF (mVar 1) (mVar 2)) mA0))))) (mRet (mD (.bool false))) mNx)
noncomputable def lp__law_same_1 (R : List D → FR) : M Fl := mFor (mRng rng1F (mA1 (mN lenF (mA1 (mVar 1) mA0)) mA0)) (mStore 2) (bd__law_same_1 R)
noncomputable def m__law_same (R : List D → FR) : M Fl := (mSeq (mIf (mTru (m1 (isiF .str) (mVar 1))) (mRet (mAndV (m1 (isiF .str) (mVar 0)) (m2 eqF (mVar 0) (mVar 1)))) mNx) (mSeq (mIf (mTru (m1 (isiF .int) (mVar 1))) (mRet (mAndV (m1 (isiF .int) (mVar 0)) (mAndV (mNotV (m1 (isiF .bool) (mVar 0))) (m2 eqF (mVar 0) (mVar 1))))) mNx) (mSeq (mIf (mOr (mBl (m2 neF (m1 (isiF .list) (mVar 1)) (m1 (isiF .list) (mVar 0)))) (mBl (m2 neF (m1 (isiF .tuple) (mVar 1)) (m1 (isiF .tuple) (mVar 0))))) (mRet (mD (.bool false))) mNx) (mSeq (mIf (mBl (m2 neF (mN lenF (mA1 (mVar 0) mA0)) (mN lenF (mA1 (mVar 1) mA0)))) (mRet (mD (.bool false))) mNx) (mSeq (lp__law_same_1 R) (mRet (mD (.bool true))))))))
noncomputable def fs__law_same : Nat → List D → FR
  | 0 => fun _ => .no
  | n + 1 => runDef 2 3 (m__law_same (fs__law_same n))
/- look_at_dealing: 0 order, 1 dealing -/
noncomputable def m_look_at_dealing : M Fl := (mIf (mBl (m2 neF (mN lenF (mA1 (mVar 1) mA0)) (mN lenF (mA1 (mVar 0) mA0)))) mNever mNx)
noncomputable def fn_look_at_dealing : List D → FR := runDef 2 2 m_look_at_dealing
/- look_at_openings: 0 people, 1 numbers -/
noncomputable def m_look_at_openings : M Fl := (mSeq (mIf (mOr (mBl (m2 neF (mN lenF (mA1 (mVar 1) mA0)) (mVar 0))) (mOr (mBl (m2 ltF (mVar 0) (mD (.int 1)))) (mBl (m2 gtF (mVar 0) (mD (.int 60)))))) mNever mNx) (mIf (mOr (mBl (m2 ltF (mN minF (mA1 (mVar 1) mA0)) (mD (.int 0)))) (mBl (m2 gtF (mN maxF (mA1 (mVar 1) mA0)) (mVar 0)))) mNever mNx))
noncomputable def fn_look_at_openings : List D → FR := runDef 2 2 m_look_at_openings
/- made_openings: 0 people, 1 numbers -/
noncomputable def m_made_openings : M Fl := (mSeq (mExp (mCall fn_look_at_openings (mA1 (mVar 0) (mA1 (mVar 1) mA0)))) (mRet (mN tupleF (mA1 (mVar 1) mA0))))
noncomputable def fn_made_openings : List D → FR := runDef 2 2 m_made_openings
/- boxes_as: 0 order, 1 dealing, 2 openings, 3 person, 4 found, 5 box -/
noncomputable def bd_boxes_as_1 : M Fl := (mSeq (mExp (guardL 4 (mMut 4 appF (mA1 (mVar 5) mA0)))) (mSeq (mIf (mBl (m2 eqF (m2 ixF (mVar 0) (mVar 5)) (mVar 3))) (mRet (mVar 4)) mNx) (mSet 5 (m2 ixF (mVar 1) (m2 ixF (mVar 0) (mVar 5))))))
noncomputable def lp_boxes_as_1 : M Fl := mWhile (mBl (m2 ltF (mN lenF (mA1 (mVar 4) mA0)) (m2 ixF (mVar 2) (mVar 3)))) bd_boxes_as_1
noncomputable def m_boxes_as : M Fl := (mSeq (mSet 4 (mLst mA0)) (mSeq (mSet 5 (m2 ixF (mVar 1) (mVar 3))) (mSeq lp_boxes_as_1 (mRet (mVar 4)))))
noncomputable def fn_boxes_as : List D → FR := runDef 4 6 m_boxes_as
/- finders_as: 0 order, 1 dealing, 2 openings, 3 found, 4 person, 5 boxes -/
noncomputable def bd_finders_as_1 : M Fl := (mSeq (mSet 5 (mCall fn_boxes_as (mA1 (mVar 0) (mA1 (mVar 1) (mA1 (mVar 2) (mA1 (mVar 4) mA0)))))) (mIf (mAnd (mBl (m2 gtF (mN lenF (mA1 (mVar 5) mA0)) (mD (.int 0)))) (mBl (m2 eqF (m2 ixF (mVar 0) (m2 ixF (mVar 5) (m1 negF (mD (.int 1))))) (mVar 4)))) (mExp (guardL 3 (mMut 3 appF (mA1 (mVar 4) mA0)))) mNx))
noncomputable def lp_finders_as_1 : M Fl := mFor (mRng rng1F (mA1 (mN lenF (mA1 (mVar 0) mA0)) mA0)) (mStore 4) bd_finders_as_1
noncomputable def m_finders_as : M Fl := (mSeq (mExp (mCall fn_look_at_dealing (mA1 (mVar 0) (mA1 (mVar 1) mA0)))) (mSeq (mExp (mCall fn_made_openings (mA1 (mN lenF (mA1 (mVar 0) mA0)) (mA1 (mVar 2) mA0)))) (mSeq (mSet 3 (mLst mA0)) (mSeq lp_finders_as_1 (mRet (mN tupleF (mA1 (mVar 3) mA0)))))))
noncomputable def fn_finders_as : List D → FR := runDef 3 6 m_finders_as
/- opened_as: 0 order, 1 dealing, 2 openings, 3 person -/
noncomputable def m_opened_as : M Fl := (mSeq (mExp (mCall fn_look_at_dealing (mA1 (mVar 0) (mA1 (mVar 1) mA0)))) (mSeq (mExp (mCall fn_made_openings (mA1 (mN lenF (mA1 (mVar 0) mA0)) (mA1 (mVar 2) mA0)))) (mSeq (mIf (mOr (mBl (m2 ltF (mVar 3) (mD (.int 0)))) (mBl (m2 geF (mVar 3) (mN lenF (mA1 (mVar 0) mA0))))) mNever mNx) (mRet (mCall fn_boxes_as (mA1 (mVar 0) (mA1 (mVar 1) (mA1 (mVar 2) (mA1 (mVar 3) mA0)))))))))
noncomputable def fn_opened_as : List D → FR := runDef 4 4 m_opened_as
/- law: 0 script, 1 many, 2 cell, 3 order, 4 openings, 5 found, 6 person, 7 due, 8 p -/
noncomputable def el_law_1 : M Ret := (mBmT tindexF (mVar 3) (mA1 (mVar 6) mA0))
noncomputable def lc_law_1 : M Ret := mLc [6] (st1 6) (mRng rng1F (mA1 (mVar 1) mA0)) mYes el_law_1
noncomputable def el_law_2 : M Ret := (mVar 8)
noncomputable def lc_law_2 : M Ret := mLc [8] (st1 8) (mRng rng1F (mA1 (mVar 1) mA0)) (mBl (m2 gtF (m2 ixF (mVar 4) (mVar 8)) (mD (.int 0)))) el_law_2
noncomputable def bd_law_1 : M Fl := (mSeq (mSet 2 (mN absF (mA1 (mVar 2) mA0))) (mSeq (mSet 3 (mCall fn__law_order (mA1 (mVar 2) (mA1 (mVar 1) mA0)))) (mSeq (mSet 4 (mCall fn__law_openings (mA1 (m2 divF (mVar 2) (mD (.int 5))) (mA1 (mVar 1) mA0)))) (mSeq (mSet 5 (mCall fn_plain_dealing (mA1 (mVar 3) mA0))) (mSeq (mIf (mNot (mTru (mCall (fs__law_same 4) (mA1 (mVar 5) (mA1 (mN tupleF (mA1 lc_law_1 mA0)) mA0))))) (mRet (mD (.bool false))) mNx) (mSeq (mIf (mNot (mTru (mCall (fs__law_same 4) (mA1 (mCall fn_finders_as (mA1 (mVar 3) (mA1 (mVar 5) (mA1 (mVar 4) mA0)))) (mA1 (mN tupleF (mA1 lc_law_2 mA0)) mA0))))) (mRet (mD (.bool false))) mNx) (mSeq (mSet 6 (m2 modF (mVar 2) (mVar 1))) (mSeq (mSet 7 (mSl (mLst (mA1 (mBmT tindexF (mVar 3) (mA1 (mVar 6) mA0)) mA0)) mNoP (mPart (m2 ixF (mVar 4) (mVar 6))))) (mIf (mNot (mTru (mCall (fs__law_same 4) (mA1 (mCall fn_opened_as (mA1 (mVar 3) (mA1 (mVar 5) (mA1 (mVar 4) (mA1 (mVar 6) mA0))))) (mA1 (mVar 7) mA0))))) (mRet (mD (.bool false))) mNx)))))))))
noncomputable def lp_law_1 : M Fl := mFor (mIt (m2 addF (mLst (mA1 (mD (.int 0)) mA0)) (mN listF (mA1 (mSl (mVar 0) (mPart (mD (.int 1))) mNoP) mA0)))) (mStore 2) bd_law_1
noncomputable def m_law : M Fl := (mSeq (mSet 1 (mCall fn__law_size (mA1 (mVar 0) mA0))) (mSeq lp_law_1 (mRet (mD (.bool true)))))
noncomputable def fn_law : List D → FR := runDef 1 9 m_law
/-! ### what the top has written -/
structure Facts (K : PySem.W.Frag) (mg : Str → Option Value) where
  a__law_cell : Addr
  fd__law_cell : FuncData
  F__law_cell : Fun K "_law_cell" "_law_cell" s__law_cell a__law_cell fd__law_cell
  b__law_cell : Binds K fd__law_cell ["script", "k"] []
  g__law_cell : mg "_law_cell" = some (.ref a__law_cell)
  a__law_size : Addr
  fd__law_size : FuncData
  F__law_size : Fun K "_law_size" "_law_size" s__law_size a__law_size fd__law_size
  b__law_size : Binds K fd__law_size ["script"] []
  g__law_size : mg "_law_size" = some (.ref a__law_size)
  a__law_order : Addr
  fd__law_order : FuncData
  F__law_order : Fun K "_law_order" "_law_order" s__law_order a__law_order fd__law_order
  b__law_order : Binds K fd__law_order ["cell", "many"] []
  g__law_order : mg "_law_order" = some (.ref a__law_order)
  a__law_openings : Addr
  fd__law_openings : FuncData
  F__law_openings : Fun K "_law_openings" "_law_openings" s__law_openings a__law_openings fd__law_openings
  b__law_openings : Binds K fd__law_openings ["cell", "many"] []
  g__law_openings : mg "_law_openings" = some (.ref a__law_openings)
  a_turned_back : Addr
  fd_turned_back : FuncData
  F_turned_back : Fun K "turned_back" "turned_back" s_turned_back a_turned_back fd_turned_back
  b_turned_back : Binds K fd_turned_back ["order"] []
  g_turned_back : mg "turned_back" = some (.ref a_turned_back)
  a_plain_dealing : Addr
  fd_plain_dealing : FuncData
  F_plain_dealing : Fun K "plain_dealing" "plain_dealing" s_plain_dealing a_plain_dealing fd_plain_dealing
  b_plain_dealing : Binds K fd_plain_dealing ["order"] []
  g_plain_dealing : mg "plain_dealing" = some (.ref a_plain_dealing)
  a__law_same : Addr
  fd__law_same : FuncData
  F__law_same : Fun K "_law_same" "_law_same" s__law_same a__law_same fd__law_same
  b__law_same : Binds K fd__law_same ["found", "due"] []
  g__law_same : mg "_law_same" = some (.ref a__law_same)
  a_look_at_dealing : Addr
  fd_look_at_dealing : FuncData
  F_look_at_dealing : Fun K "look_at_dealing" "look_at_dealing" s_look_at_dealing a_look_at_dealing fd_look_at_dealing
  b_look_at_dealing : Binds K fd_look_at_dealing ["order", "dealing"] []
  g_look_at_dealing : mg "look_at_dealing" = some (.ref a_look_at_dealing)
  a_look_at_openings : Addr
  fd_look_at_openings : FuncData
  F_look_at_openings : Fun K "look_at_openings" "look_at_openings" s_look_at_openings a_look_at_openings fd_look_at_openings
  b_look_at_openings : Binds K fd_look_at_openings ["people", "numbers"] []
  g_look_at_openings : mg "look_at_openings" = some (.ref a_look_at_openings)
  a_made_openings : Addr
  fd_made_openings : FuncData
  F_made_openings : Fun K "made_openings" "made_openings" s_made_openings a_made_openings fd_made_openings
  b_made_openings : Binds K fd_made_openings ["people", "numbers"] []
  g_made_openings : mg "made_openings" = some (.ref a_made_openings)
  a_boxes_as : Addr
  fd_boxes_as : FuncData
  F_boxes_as : Fun K "boxes_as" "boxes_as" s_boxes_as a_boxes_as fd_boxes_as
  b_boxes_as : Binds K fd_boxes_as ["order", "dealing", "openings", "person"] []
  g_boxes_as : mg "boxes_as" = some (.ref a_boxes_as)
  a_finders_as : Addr
  fd_finders_as : FuncData
  F_finders_as : Fun K "finders_as" "finders_as" s_finders_as a_finders_as fd_finders_as
  b_finders_as : Binds K fd_finders_as ["order", "dealing", "openings"] []
  g_finders_as : mg "finders_as" = some (.ref a_finders_as)
  a_opened_as : Addr
  fd_opened_as : FuncData
  F_opened_as : Fun K "opened_as" "opened_as" s_opened_as a_opened_as fd_opened_as
  b_opened_as : Binds K fd_opened_as ["order", "dealing", "openings", "person"] []
  g_opened_as : mg "opened_as" = some (.ref a_opened_as)
  a_law : Addr
  fd_law : FuncData
  F_law : Fun K "law" "law" s_law a_law fd_law
  b_law : Binds K fd_law ["script"] []
  g_law : mg "law" = some (.ref a_law)
  t_MOST_BOXES : Tok
  c_MOST_BOXES : mg "MOST_BOXES" = some (.int 60 t_MOST_BOXES)
  z_abs : mg "abs" = none
  z_bool : mg "bool" = none
  z_enumerate : mg "enumerate" = none
  z_int : mg "int" = none
  z_isinstance : mg "isinstance" = none
  z_len : mg "len" = none
  z_list : mg "list" = none
  z_max : mg "max" = none
  z_min : mg "min" = none
  z_range : mg "range" = none
  z_str : mg "str" = none
  z_tuple : mg "tuple" = none
/-! ### the code is the functions -/
section
variable {P : Program} {w : World} {K : PySem.W.Frag} {mg : Str → Option Value} {base : Heap} {cl : Cl}
theorem ok__law_cell (Z : Facts K mg) : FnOk P w K mg base (L2.CX P w) 1 Z.a__law_cell Z.fd__law_cell ["script", "k"] (spM K cl fn__law_cell) :=
  den_def (N := ["script", "k"]) (m := m__law_cell) Z.F__law_cell sc__law_cell fun cdv A outer s H E hr => (den_cons (den_if (den_cmpt op_lt lt_ok (den_var 1) (den_callB call_len len_ok (by rfl) Z.z_len PySem.boot_len (den_args (den_var 0) den_args0))) (den_last (den_ret (den_callB call_abs abs_ok (by rfl) Z.z_abs PyProof.Rows.boot_abs (den_args (den_item (den_var 0) (den_var 1)) den_args0)))) den_nil) (den_last (den_ret den_int)))
theorem ok__law_size (Z : Facts K mg) : FnOk P w K mg base (L2.CX P w) 2 Z.a__law_size Z.fd__law_size ["script"] (spM K cl fn__law_size) :=
  den_def (N := ["script", "cell"]) (m := m__law_size) Z.F__law_size sc__law_size fun cdv A outer s H E hr => (den_cons (den_set 1 sc__law_size.nd (den_call (ok__law_cell (P := P) (w := w) (base := base) (cl := cl) Z) (takes_of rfl rfl rfl rfl) (hr.mono (by decide)) (by rfl) Z.g__law_cell Z.F__law_cell.kp Z.b__law_cell (den_args (den_var 0) (den_args den_int den_args0)))) (den_cons (den_if (den_cmpt (op_eqM hr.units) eq_ok (den_mod (den_var 1) den_int) den_int) (den_last (den_ret (den_add den_int (den_mod (den_div (den_var 1) den_int) den_int)))) den_nil) (den_last (den_ret (den_add den_int (den_mod (den_div (den_var 1) den_int) den_int))))))
theorem ok__law_order (Z : Facts K mg) : FnOk P w K mg base (L2.CX P w) 1 Z.a__law_order Z.fd__law_order ["cell", "many"] (spM K cl fn__law_order) :=
  den_def (N := ["cell", "many", "names", "k"]) (m := m__law_order) Z.F__law_order sc__law_order fun cdv A outer s H E hr => (den_cons (den_set 2 sc__law_order.nd (den_lst den_args0)) (den_cons (den_for (passes_of rfl) rfl (den_rng1 (by rfl) Z.z_range (den_args (den_var 1) den_args0)) (den_tname 3 sc__law_order.nd) (den_cons (den_expr (den_mut 2 PySem.F.slot_list_insert PySem.F.type_list_insert mt_insert ins_ok (den_args (den_mod (den_var 0) (den_add (den_var 3) den_int)) (den_args (den_var 3) den_args0)))) (den_last (den_set 0 sc__law_order.nd (den_div (den_var 0) (den_add (den_var 3) den_int)))))) (den_last (den_ret (den_callTy call_tuple_N tuple_ok (by rfl) Z.z_tuple PyProof.Rows.boot_tuple (den_args (den_var 2) den_args0))))))
theorem ok__law_openings (Z : Facts K mg) : FnOk P w K mg base (L2.CX P w) 1 Z.a__law_openings Z.fd__law_openings ["cell", "many"] (spM K cl fn__law_openings) :=
  den_def (N := ["cell", "many", "found", "k"]) (m := m__law_openings) Z.F__law_openings sc__law_openings fun cdv A outer s H E hr => (den_cons (den_set 2 sc__law_openings.nd (den_lst den_args0)) (den_cons (den_for (passes_of rfl) rfl (den_rng1 (by rfl) Z.z_range (den_args (den_var 1) den_args0)) (den_tname 3 sc__law_openings.nd) (den_cons (den_expr (den_mut 2 PySem.F.slot_list_append PySem.F.type_list_append mt_append app_ok (den_args (den_mod (den_var 0) (den_add (den_var 1) den_int)) den_args0))) (den_last (den_set 0 sc__law_openings.nd (den_div (den_var 0) (den_add (den_var 1) den_int)))))) (den_last (den_ret (den_callTy call_tuple_N tuple_ok (by rfl) Z.z_tuple PyProof.Rows.boot_tuple (den_args (den_var 2) den_args0))))))
theorem ok_turned_back (Z : Facts K mg) : FnOk P w K mg base (L2.CX P w) 1 Z.a_turned_back Z.fd_turned_back ["order"] (spM K cl fn_turned_back) :=
  den_def (N := ["order", "boxes", "box", "person"]) (m := m_turned_back) Z.F_turned_back sc_turned_back fun cdv A outer s H E hr => (den_cons (den_set 1 sc_turned_back.nd (den_mul (den_lst (den_args den_int den_args0)) (den_callB call_len len_ok (by rfl) Z.z_len PySem.boot_len (den_args (den_var 0) den_args0)))) (den_cons (den_for (passes_of rfl) rfl (den_enumT (by rfl) Z.z_enumerate (den_args (den_var 0) den_args0)) (den_ttup rfl (den_tgs1 (den_tname 2 sc_turned_back.nd) (den_tgs1 (den_tname 3 sc_turned_back.nd) den_tgs0))) (den_last (den_asg (den_var 2) (den_tsub (W := W0) 1 (den_var 3))))) (den_last (den_ret (den_callTy call_tuple_N tuple_ok (by rfl) Z.z_tuple PyProof.Rows.boot_tuple (den_args (den_var 1) den_args0))))))
theorem ok_plain_dealing (Z : Facts K mg) : FnOk P w K mg base (L2.CX P w) 2 Z.a_plain_dealing Z.fd_plain_dealing ["order"] (spM K cl fn_plain_dealing) :=
  den_def (N := ["order"]) (m := m_plain_dealing) Z.F_plain_dealing sc_plain_dealing fun cdv A outer s H E hr => (den_last (den_ret (den_call (ok_turned_back (P := P) (w := w) (base := base) (cl := cl) Z) (takes_of rfl rfl rfl rfl) (hr.mono (by decide)) (by rfl) Z.g_turned_back Z.F_turned_back.kp Z.b_turned_back (den_args (den_var 0) den_args0))))
theorem ok__law_same (Z : Facts K mg) : ∀ n : Nat, FnOk P w K mg base (L2.CX P w) (1 + n) Z.a__law_same Z.fd__law_same ["found", "due"] (spM K cl (fs__law_same n))
  | 0 => fnok_no
  | n + 1 => den_def (N := ["found", "due", "k"]) (m := m__law_same (fs__law_same n)) Z.F__law_same sc__law_same fun cdv A outer s H E hr => (den_cons (den_if (den_tru (den_isi .str (by rfl) Z.z_isinstance (by rfl) Z.z_str PyProof.Rows.boot_str (den_var 1))) (den_last (den_ret (den_andV (den_isi .str (by rfl) Z.z_isinstance (by rfl) Z.z_str PyProof.Rows.boot_str (den_var 0)) (den_one (den_cmp (op_eqM hr.units) eq_ok (den_var 0) (den_var 1)))))) den_nil) (den_cons (den_if (den_tru (den_isi .int (by rfl) Z.z_isinstance (by rfl) Z.z_int PyProof.Rows.boot_int (den_var 1))) (den_last (den_ret (den_andV (den_isi .int (by rfl) Z.z_isinstance (by rfl) Z.z_int PyProof.Rows.boot_int (den_var 0)) (den_andV (den_notV (den_isi .bool (by rfl) Z.z_isinstance (by rfl) Z.z_bool PyProof.Rows.boot_bool (den_var 0))) (den_one (den_cmp (op_eqM hr.units) eq_ok (den_var 0) (den_var 1))))))) den_nil) (den_cons (den_if (PW.pt (den_or (den_cmpt (op_neM hr.units) ne_ok (den_isi .list (by rfl) Z.z_isinstance (by rfl) Z.z_list PyProof.Rows.boot_list (den_var 1)) (den_isi .list (by rfl) Z.z_isinstance (by rfl) Z.z_list PyProof.Rows.boot_list (den_var 0))) (den_or1 (den_cmpt (op_neM hr.units) ne_ok (den_isi .tuple (by rfl) Z.z_isinstance (by rfl) Z.z_tuple PyProof.Rows.boot_tuple (den_var 1)) (den_isi .tuple (by rfl) Z.z_isinstance (by rfl) Z.z_tuple PyProof.Rows.boot_tuple (den_var 0)))))) (den_last (den_ret den_bl)) den_nil) (den_cons (den_if (den_cmpt (op_neM hr.units) ne_ok (den_callB call_len len_ok (by rfl) Z.z_len PySem.boot_len (den_args (den_var 0) den_args0)) (den_callB call_len len_ok (by rfl) Z.z_len PySem.boot_len (den_args (den_var 1) den_args0))) (den_last (den_ret den_bl)) den_nil) (den_cons (den_for (passes_of rfl) rfl (den_rng1 (by rfl) Z.z_range (den_args (den_callB call_len len_ok (by rfl) Z.z_len PySem.boot_len (den_args (den_var 1) den_args0)) den_args0)) (den_tname 2 sc__law_same.nd) (den_last (den_if (den_not (den_tru (den_call (ok__law_same Z n) (takes_of rfl rfl rfl rfl) (hr.mono (Nat.le_refl _)) (by rfl) Z.g__law_same Z.F__law_same.kp Z.b__law_same (den_args (den_item (den_var 0) (den_var 2)) (den_args (den_item (den_var 1) (den_var 2)) den_args0))))) (den_last (den_ret den_bl)) den_nil))) (den_last (den_ret den_bl)))))))
theorem ok_look_at_dealing (Z : Facts K mg) : FnOk P w K mg base (L2.CX P w) 1 Z.a_look_at_dealing Z.fd_look_at_dealing ["order", "dealing"] (spM K cl fn_look_at_dealing) :=
  den_def (N := ["order", "dealing"]) (m := m_look_at_dealing) Z.F_look_at_dealing sc_look_at_dealing fun cdv A outer s H E hr => (den_last (den_if (den_cmpt (op_neM hr.units) ne_ok (den_callB call_len len_ok (by rfl) Z.z_len PySem.boot_len (den_args (den_var 1) den_args0)) (den_callB call_len len_ok (by rfl) Z.z_len PySem.boot_len (den_args (den_var 0) den_args0))) (den_last den_never) den_nil))
theorem ok_look_at_openings (Z : Facts K mg) : FnOk P w K mg base (L2.CX P w) 1 Z.a_look_at_openings Z.fd_look_at_openings ["people", "numbers"] (spM K cl fn_look_at_openings) :=
  den_def (N := ["people", "numbers"]) (m := m_look_at_openings) Z.F_look_at_openings sc_look_at_openings fun cdv A outer s H E hr => (den_cons (den_if (PW.pt (den_or (den_cmpt (op_neM hr.units) ne_ok (den_callB call_len len_ok (by rfl) Z.z_len PySem.boot_len (den_args (den_var 1) den_args0)) (den_var 0)) (den_or (den_cmpt op_lt lt_ok (den_var 0) den_int) (den_or1 (den_cmpt op_gt gt_ok (den_var 0) (den_gint (by rfl) Z.c_MOST_BOXES)))))) (den_last den_never) den_nil) (den_last (den_if (PW.pt (den_or (den_cmpt op_lt lt_ok (den_callB ((cr_min rfl).or (cr_minTu rfl)) min_ok (by rfl) Z.z_min PyProof.Rows.boot_min (den_args (den_var 1) den_args0)) den_int) (den_or1 (den_cmpt op_gt gt_ok (den_callB ((cr_max rfl).or (cr_maxTu rfl)) max_ok (by rfl) Z.z_max PyProof.Rows.boot_max (den_args (den_var 1) den_args0)) (den_var 0))))) (den_last den_never) den_nil)))
theorem ok_made_openings (Z : Facts K mg) : FnOk P w K mg base (L2.CX P w) 2 Z.a_made_openings Z.fd_made_openings ["people", "numbers"] (spM K cl fn_made_openings) :=
  den_def (N := ["people", "numbers"]) (m := m_made_openings) Z.F_made_openings sc_made_openings fun cdv A outer s H E hr => (den_cons (den_expr (den_call (ok_look_at_openings (P := P) (w := w) (base := base) (cl := cl) Z) (takes_of rfl rfl rfl rfl) (hr.mono (by decide)) (by rfl) Z.g_look_at_openings Z.F_look_at_openings.kp Z.b_look_at_openings (den_args (den_var 0) (den_args (den_var 1) den_args0)))) (den_last (den_ret (den_callTy call_tuple_N tuple_ok (by rfl) Z.z_tuple PyProof.Rows.boot_tuple (den_args (den_var 1) den_args0)))))
theorem ok_boxes_as (Z : Facts K mg) : FnOk P w K mg base (L2.CX P w) 1 Z.a_boxes_as Z.fd_boxes_as ["order", "dealing", "openings", "person"] (spM K cl fn_boxes_as) :=
  den_def (N := ["order", "dealing", "openings", "person", "found", "box"]) (m := m_boxes_as) Z.F_boxes_as sc_boxes_as fun cdv A outer s H E hr => (den_cons (den_set 4 sc_boxes_as.nd (den_lst den_args0)) (den_cons (den_set 5 sc_boxes_as.nd (den_item (den_var 1) (den_var 3))) (den_cons (den_while (passes_of rfl) (den_cmpt op_lt lt_ok (den_callB call_len len_ok (by rfl) Z.z_len PySem.boot_len (den_args (den_var 4) den_args0)) (den_item (den_var 2) (den_var 3))) (den_cons (den_expr (den_mut 4 PySem.F.slot_list_append PySem.F.type_list_append mt_append app_ok (den_args (den_var 5) den_args0))) (den_cons (den_if (den_cmpt (op_eqM hr.units) eq_ok (den_item (den_var 0) (den_var 5)) (den_var 3)) (den_last (den_ret (den_var 4))) den_nil) (den_last (den_set 5 sc_boxes_as.nd (den_item (den_var 1) (den_item (den_var 0) (den_var 5)))))))) (den_last (den_ret (den_var 4))))))
theorem ok_finders_as (Z : Facts K mg) : FnOk P w K mg base (L2.CX P w) 3 Z.a_finders_as Z.fd_finders_as ["order", "dealing", "openings"] (spM K cl fn_finders_as) :=
  den_def (N := ["order", "dealing", "openings", "found", "person", "boxes"]) (m := m_finders_as) Z.F_finders_as sc_finders_as fun cdv A outer s H E hr => (den_cons (den_expr (den_call (ok_look_at_dealing (P := P) (w := w) (base := base) (cl := cl) Z) (takes_of rfl rfl rfl rfl) (hr.mono (by decide)) (by rfl) Z.g_look_at_dealing Z.F_look_at_dealing.kp Z.b_look_at_dealing (den_args (den_var 0) (den_args (den_var 1) den_args0)))) (den_cons (den_expr (den_call (ok_made_openings (P := P) (w := w) (base := base) (cl := cl) Z) (takes_of rfl rfl rfl rfl) (hr.mono (by decide)) (by rfl) Z.g_made_openings Z.F_made_openings.kp Z.b_made_openings (den_args (den_callB call_len len_ok (by rfl) Z.z_len PySem.boot_len (den_args (den_var 0) den_args0)) (den_args (den_var 2) den_args0)))) (den_cons (den_set 3 sc_finders_as.nd (den_lst den_args0)) (den_cons (den_for (passes_of rfl) rfl (den_rng1 (by rfl) Z.z_range (den_args (den_callB call_len len_ok (by rfl) Z.z_len PySem.boot_len (den_args (den_var 0) den_args0)) den_args0)) (den_tname 4 sc_finders_as.nd) (den_cons (den_set 5 sc_finders_as.nd (den_call (ok_boxes_as (P := P) (w := w) (base := base) (cl := cl) Z) (takes_of rfl rfl rfl rfl) (hr.mono (by decide)) (by rfl) Z.g_boxes_as Z.F_boxes_as.kp Z.b_boxes_as (den_args (den_var 0) (den_args (den_var 1) (den_args (den_var 2) (den_args (den_var 4) den_args0)))))) (den_last (den_if (PW.pt (den_and (den_cmpt op_gt gt_ok (den_callB call_len len_ok (by rfl) Z.z_len PySem.boot_len (den_args (den_var 5) den_args0)) den_int) (den_and1 (den_cmpt (op_eqM hr.units) eq_ok (den_item (den_var 0) (den_item (den_var 5) (den_neg den_int))) (den_var 4))))) (den_last (den_expr (den_mut 3 PySem.F.slot_list_append PySem.F.type_list_append mt_append app_ok (den_args (den_var 4) den_args0)))) den_nil)))) (den_last (den_ret (den_callTy call_tuple_N tuple_ok (by rfl) Z.z_tuple PyProof.Rows.boot_tuple (den_args (den_var 3) den_args0))))))))
theorem ok_opened_as (Z : Facts K mg) : FnOk P w K mg base (L2.CX P w) 3 Z.a_opened_as Z.fd_opened_as ["order", "dealing", "openings", "person"] (spM K cl fn_opened_as) :=
  den_def (N := ["order", "dealing", "openings", "person"]) (m := m_opened_as) Z.F_opened_as sc_opened_as fun cdv A outer s H E hr => (den_cons (den_expr (den_call (ok_look_at_dealing (P := P) (w := w) (base := base) (cl := cl) Z) (takes_of rfl rfl rfl rfl) (hr.mono (by decide)) (by rfl) Z.g_look_at_dealing Z.F_look_at_dealing.kp Z.b_look_at_dealing (den_args (den_var 0) (den_args (den_var 1) den_args0)))) (den_cons (den_expr (den_call (ok_made_openings (P := P) (w := w) (base := base) (cl := cl) Z) (takes_of rfl rfl rfl rfl) (hr.mono (by decide)) (by rfl) Z.g_made_openings Z.F_made_openings.kp Z.b_made_openings (den_args (den_callB call_len len_ok (by rfl) Z.z_len PySem.boot_len (den_args (den_var 0) den_args0)) (den_args (den_var 2) den_args0)))) (den_cons (den_if (PW.pt (den_or (den_cmpt op_lt lt_ok (den_var 3) den_int) (den_or1 (den_cmpt op_ge ge_ok (den_var 3) (den_callB call_len len_ok (by rfl) Z.z_len PySem.boot_len (den_args (den_var 0) den_args0)))))) (den_last den_never) den_nil) (den_last (den_ret (den_call (ok_boxes_as (P := P) (w := w) (base := base) (cl := cl) Z) (takes_of rfl rfl rfl rfl) (hr.mono (by decide)) (by rfl) Z.g_boxes_as Z.F_boxes_as.kp Z.b_boxes_as (den_args (den_var 0) (den_args (den_var 1) (den_args (den_var 2) (den_args (den_var 3) den_args0))))))))))
theorem ok_law (Z : Facts K mg) : FnOk P w K mg base (L2.CX P w) 6 Z.a_law Z.fd_law ["script"] (spM K cl fn_law) :=
  den_def (N := ["script", "many", "cell", "order", "openings", "found", "person", "due", "p"]) (m := m_law) Z.F_law sc_law fun cdv A outer s H E hr => (den_cons (den_set 1 sc_law.nd (den_call (ok__law_size (P := P) (w := w) (base := base) (cl := cl) Z) (takes_of rfl rfl rfl rfl) (hr.mono (by decide)) (by rfl) Z.g__law_size Z.F__law_size.kp Z.b__law_size (den_args (den_var 0) den_args0))) (den_cons (den_for (passes_of rfl) rfl (den_it (den_add (den_lst (den_args den_int den_args0)) (den_callTy call_list_of list_ok (by rfl) Z.z_list PyProof.Rows.boot_list (den_args (den_sl (den_var 0) (den_part den_int) den_noP) den_args0)))) (den_tname 2 sc_law.nd) (den_cons (den_set 2 sc_law.nd (den_callB call_abs abs_ok (by rfl) Z.z_abs PyProof.Rows.boot_abs (den_args (den_var 2) den_args0))) (den_cons (den_set 3 sc_law.nd (den_call (ok__law_order (P := P) (w := w) (base := base) (cl := cl) Z) (takes_of rfl rfl rfl rfl) (hr.mono (by decide)) (by rfl) Z.g__law_order Z.F__law_order.kp Z.b__law_order (den_args (den_var 2) (den_args (den_var 1) den_args0)))) (den_cons (den_set 4 sc_law.nd (den_call (ok__law_openings (P := P) (w := w) (base := base) (cl := cl) Z) (takes_of rfl rfl rfl rfl) (hr.mono (by decide)) (by rfl) Z.g__law_openings Z.F__law_openings.kp Z.b__law_openings (den_args (den_div (den_var 2) den_int) (den_args (den_var 1) den_args0)))) (den_cons (den_set 5 sc_law.nd (den_call (ok_plain_dealing (P := P) (w := w) (base := base) (cl := cl) Z) (takes_of rfl rfl rfl rfl) (hr.mono (by decide)) (by rfl) Z.g_plain_dealing Z.F_plain_dealing.kp Z.b_plain_dealing (den_args (den_var 3) den_args0))) (den_cons (den_if (den_not (den_tru (den_call (ok__law_same (P := P) (w := w) (base := base) (cl := cl) Z 4) (takes_of rfl rfl rfl rfl) (hr.mono (by decide)) (by rfl) Z.g__law_same Z.F__law_same.kp Z.b__law_same (den_args (den_var 5) (den_args (den_callTy call_tuple_N tuple_ok (by rfl) Z.z_tuple PyProof.Rows.boot_tuple (den_args (den_lc (own := [("person", 6)]) rfl sc_law.nd (stOk1 6) (by decide) (den_rng1 (by rfl) Z.z_range (den_args (den_var 1) den_args0)) (blkOk_by (by rfl)) (fun _ _ _ _ _ => pg_name (i := 6) sc_law.nd rfl (.inl rfl)) (fun _ _ _ _ _ => den_yes) (fun _ _ _ _ _ => (den_bmT PySem.F.slot_tuple_index PySem.F.type_tuple_index mt_tindex tindex_ok (den_var 3) (den_args (den_var 6) den_args0)))) den_args0)) den_args0))))) (den_last (den_ret den_bl)) den_nil) (den_cons (den_if (den_not (den_tru (den_call (ok__law_same (P := P) (w := w) (base := base) (cl := cl) Z 4) (takes_of rfl rfl rfl rfl) (hr.mono (by decide)) (by rfl) Z.g__law_same Z.F__law_same.kp Z.b__law_same (den_args (den_call (ok_finders_as (P := P) (w := w) (base := base) (cl := cl) Z) (takes_of rfl rfl rfl rfl) (hr.mono (by decide)) (by rfl) Z.g_finders_as Z.F_finders_as.kp Z.b_finders_as (den_args (den_var 3) (den_args (den_var 5) (den_args (den_var 4) den_args0)))) (den_args (den_callTy call_tuple_N tuple_ok (by rfl) Z.z_tuple PyProof.Rows.boot_tuple (den_args (den_lc (own := [("p", 8)]) rfl sc_law.nd (stOk1 8) (by decide) (den_rng1 (by rfl) Z.z_range (den_args (den_var 1) den_args0)) (blkOk_by (by rfl)) (fun _ _ _ _ _ => pg_name (i := 8) sc_law.nd rfl (.inl rfl)) (fun _ _ _ _ _ => den_onlyif (den_cmpt op_gt gt_ok (den_item (den_var 4) (den_var 8)) den_int)) (fun _ _ _ _ _ => (den_var 8))) den_args0)) den_args0))))) (den_last (den_ret den_bl)) den_nil) (den_cons (den_set 6 sc_law.nd (den_mod (den_var 2) (den_var 1))) (den_cons (den_set 7 sc_law.nd (den_sl (den_lst (den_args (den_bmT PySem.F.slot_tuple_index PySem.F.type_tuple_index mt_tindex tindex_ok (den_var 3) (den_args (den_var 6) den_args0)) den_args0)) den_noP (den_part (den_item (den_var 4) (den_var 6))))) (den_last (den_if (den_not (den_tru (den_call (ok__law_same (P := P) (w := w) (base := base) (cl := cl) Z 4) (takes_of rfl rfl rfl rfl) (hr.mono (by decide)) (by rfl) Z.g__law_same Z.F__law_same.kp Z.b__law_same (den_args (den_call (ok_opened_as (P := P) (w := w) (base := base) (cl := cl) Z) (takes_of rfl rfl rfl rfl) (hr.mono (by decide)) (by rfl) Z.g_opened_as Z.F_opened_as.kp Z.b_opened_as (den_args (den_var 3) (den_args (den_var 5) (den_args (den_var 4) (den_args (den_var 6) den_args0))))) (den_args (den_var 7) den_args0))))) (den_last (den_ret den_bl)) den_nil))))))))))) (den_last (den_ret den_bl))))
end
/-! ### the law's own head -/
theorem all_mk {l : PySem.W.OpenLaw} {w : World} {K : PySem.W.Frag} {h : Heap} {mg : Str → Option Value} {fa : Addr} (X : K.In h) (G : h.Ns mainGlobals mg) (hfa : mg "law" = some (.ref fa))
    {f0 : Addr} {od0 an0 : Option Addr} {sl0 : Array (Option Value)} {oc0 kV0 dc0 pm0 cd0 ct0 : Value} {f1 : Addr} {od1 an1 : Option Addr} {sl1 : Array (Option Value)} {oc1 kV1 dc1 pm1 cd1 ct1 : Value} {f2 : Addr} {od2 an2 : Option Addr} {sl2 : Array (Option Value)} {oc2 kV2 dc2 pm2 cd2 ct2 : Value} {f3 : Addr} {od3 an3 : Option Addr} {sl3 : Array (Option Value)} {oc3 kV3 dc3 pm3 cd3 ct3 : Value} {f4 : Addr} {od4 an4 : Option Addr} {sl4 : Array (Option Value)} {oc4 kV4 dc4 pm4 cd4 ct4 : Value} {f5 : Addr} {od5 an5 : Option Addr} {sl5 : Array (Option Value)} {oc5 kV5 dc5 pm5 cd5 ct5 : Value} {f6 : Addr} {od6 an6 : Option Addr} {sl6 : Array (Option Value)} {oc6 kV6 dc6 pm6 cd6 ct6 : Value} {f7 : Addr} {od7 an7 : Option Addr} {sl7 : Array (Option Value)} {oc7 kV7 dc7 pm7 cd7 ct7 : Value} {f8 : Addr} {od8 an8 : Option Addr} {sl8 : Array (Option Value)} {oc8 kV8 dc8 pm8 cd8 ct8 : Value} {f9 : Addr} {od9 an9 : Option Addr} {sl9 : Array (Option Value)} {oc9 kV9 dc9 pm9 cd9 ct9 : Value} {f10 : Addr} {od10 an10 : Option Addr} {sl10 : Array (Option Value)} {oc10 kV10 dc10 pm10 cd10 ct10 : Value} {f11 : Addr} {od11 an11 : Option Addr} {sl11 : Array (Option Value)} {oc11 kV11 dc11 pm11 cd11 ct11 : Value} {f12 : Addr} {od12 an12 : Option Addr} {sl12 : Array (Option Value)} {oc12 kV12 dc12 pm12 cd12 ct12 : Value} {f13 : Addr} {od13 an13 : Option Addr} {sl13 : Array (Option Value)} {oc13 kV13 dc13 pm13 cd13 ct13 : Value} {tk0 : Tok}
    (a0 : PySem.W.nsIn K mainGlobals "_law_cell" = some (some (.ref f0))) (l0 : K.lookup f0 = some ⟨oc0, od0, .func (PySem.W.fnOf "_law_cell" "_law_cell" (defArgs s__law_cell) (defBody s__law_cell) (defScope s__law_cell) .none kV0 dc0 pm0 an0 cd0 ct0), sl0⟩) (c0 : PySem.W.codeIn K cd0 "_law_cell" = true) (k0 : PySem.W.keepIn K (.ref f0) = true)
    (a1 : PySem.W.nsIn K mainGlobals "_law_size" = some (some (.ref f1))) (l1 : K.lookup f1 = some ⟨oc1, od1, .func (PySem.W.fnOf "_law_size" "_law_size" (defArgs s__law_size) (defBody s__law_size) (defScope s__law_size) .none kV1 dc1 pm1 an1 cd1 ct1), sl1⟩) (c1 : PySem.W.codeIn K cd1 "_law_size" = true) (k1 : PySem.W.keepIn K (.ref f1) = true)
    (a2 : PySem.W.nsIn K mainGlobals "_law_order" = some (some (.ref f2))) (l2 : K.lookup f2 = some ⟨oc2, od2, .func (PySem.W.fnOf "_law_order" "_law_order" (defArgs s__law_order) (defBody s__law_order) (defScope s__law_order) .none kV2 dc2 pm2 an2 cd2 ct2), sl2⟩) (c2 : PySem.W.codeIn K cd2 "_law_order" = true) (k2 : PySem.W.keepIn K (.ref f2) = true)
    (a3 : PySem.W.nsIn K mainGlobals "_law_openings" = some (some (.ref f3))) (l3 : K.lookup f3 = some ⟨oc3, od3, .func (PySem.W.fnOf "_law_openings" "_law_openings" (defArgs s__law_openings) (defBody s__law_openings) (defScope s__law_openings) .none kV3 dc3 pm3 an3 cd3 ct3), sl3⟩) (c3 : PySem.W.codeIn K cd3 "_law_openings" = true) (k3 : PySem.W.keepIn K (.ref f3) = true)
    (a4 : PySem.W.nsIn K mainGlobals "turned_back" = some (some (.ref f4))) (l4 : K.lookup f4 = some ⟨oc4, od4, .func (PySem.W.fnOf "turned_back" "turned_back" (defArgs s_turned_back) (defBody s_turned_back) (defScope s_turned_back) .none kV4 dc4 pm4 an4 cd4 ct4), sl4⟩) (c4 : PySem.W.codeIn K cd4 "turned_back" = true) (k4 : PySem.W.keepIn K (.ref f4) = true)
    (a5 : PySem.W.nsIn K mainGlobals "plain_dealing" = some (some (.ref f5))) (l5 : K.lookup f5 = some ⟨oc5, od5, .func (PySem.W.fnOf "plain_dealing" "plain_dealing" (defArgs s_plain_dealing) (defBody s_plain_dealing) (defScope s_plain_dealing) .none kV5 dc5 pm5 an5 cd5 ct5), sl5⟩) (c5 : PySem.W.codeIn K cd5 "plain_dealing" = true) (k5 : PySem.W.keepIn K (.ref f5) = true)
    (a6 : PySem.W.nsIn K mainGlobals "_law_same" = some (some (.ref f6))) (l6 : K.lookup f6 = some ⟨oc6, od6, .func (PySem.W.fnOf "_law_same" "_law_same" (defArgs s__law_same) (defBody s__law_same) (defScope s__law_same) .none kV6 dc6 pm6 an6 cd6 ct6), sl6⟩) (c6 : PySem.W.codeIn K cd6 "_law_same" = true) (k6 : PySem.W.keepIn K (.ref f6) = true)
    (a7 : PySem.W.nsIn K mainGlobals "look_at_dealing" = some (some (.ref f7))) (l7 : K.lookup f7 = some ⟨oc7, od7, .func (PySem.W.fnOf "look_at_dealing" "look_at_dealing" (defArgs s_look_at_dealing) (defBody s_look_at_dealing) (defScope s_look_at_dealing) .none kV7 dc7 pm7 an7 cd7 ct7), sl7⟩) (c7 : PySem.W.codeIn K cd7 "look_at_dealing" = true) (k7 : PySem.W.keepIn K (.ref f7) = true)
    (a8 : PySem.W.nsIn K mainGlobals "look_at_openings" = some (some (.ref f8))) (l8 : K.lookup f8 = some ⟨oc8, od8, .func (PySem.W.fnOf "look_at_openings" "look_at_openings" (defArgs s_look_at_openings) (defBody s_look_at_openings) (defScope s_look_at_openings) .none kV8 dc8 pm8 an8 cd8 ct8), sl8⟩) (c8 : PySem.W.codeIn K cd8 "look_at_openings" = true) (k8 : PySem.W.keepIn K (.ref f8) = true)
    (a9 : PySem.W.nsIn K mainGlobals "made_openings" = some (some (.ref f9))) (l9 : K.lookup f9 = some ⟨oc9, od9, .func (PySem.W.fnOf "made_openings" "made_openings" (defArgs s_made_openings) (defBody s_made_openings) (defScope s_made_openings) .none kV9 dc9 pm9 an9 cd9 ct9), sl9⟩) (c9 : PySem.W.codeIn K cd9 "made_openings" = true) (k9 : PySem.W.keepIn K (.ref f9) = true)
    (a10 : PySem.W.nsIn K mainGlobals "boxes_as" = some (some (.ref f10))) (l10 : K.lookup f10 = some ⟨oc10, od10, .func (PySem.W.fnOf "boxes_as" "boxes_as" (defArgs s_boxes_as) (defBody s_boxes_as) (defScope s_boxes_as) .none kV10 dc10 pm10 an10 cd10 ct10), sl10⟩) (c10 : PySem.W.codeIn K cd10 "boxes_as" = true) (k10 : PySem.W.keepIn K (.ref f10) = true)
    (a11 : PySem.W.nsIn K mainGlobals "finders_as" = some (some (.ref f11))) (l11 : K.lookup f11 = some ⟨oc11, od11, .func (PySem.W.fnOf "finders_as" "finders_as" (defArgs s_finders_as) (defBody s_finders_as) (defScope s_finders_as) .none kV11 dc11 pm11 an11 cd11 ct11), sl11⟩) (c11 : PySem.W.codeIn K cd11 "finders_as" = true) (k11 : PySem.W.keepIn K (.ref f11) = true)
    (a12 : PySem.W.nsIn K mainGlobals "opened_as" = some (some (.ref f12))) (l12 : K.lookup f12 = some ⟨oc12, od12, .func (PySem.W.fnOf "opened_as" "opened_as" (defArgs s_opened_as) (defBody s_opened_as) (defScope s_opened_as) .none kV12 dc12 pm12 an12 cd12 ct12), sl12⟩) (c12 : PySem.W.codeIn K cd12 "opened_as" = true) (k12 : PySem.W.keepIn K (.ref f12) = true)
    (a13 : PySem.W.nsIn K mainGlobals "law" = some (some (.ref f13))) (l13 : K.lookup f13 = some ⟨oc13, od13, .func (PySem.W.fnOf "law" "law" (defArgs s_law) (defBody s_law) (defScope s_law) .none kV13 dc13 pm13 an13 cd13 ct13), sl13⟩) (c13 : PySem.W.codeIn K cd13 "law" = true) (k13 : PySem.W.keepIn K (.ref f13) = true)
    (z0 : PySem.W.nsIn K mainGlobals "MOST_BOXES" = some (some (.int 60 tk0)))
    (z1 : PySem.W.nsIn K mainGlobals "abs" = some none)
    (z2 : PySem.W.nsIn K mainGlobals "bool" = some none)
    (z3 : PySem.W.nsIn K mainGlobals "enumerate" = some none)
    (z4 : PySem.W.nsIn K mainGlobals "int" = some none)
    (z5 : PySem.W.nsIn K mainGlobals "isinstance" = some none)
    (z6 : PySem.W.nsIn K mainGlobals "len" = some none)
    (z7 : PySem.W.nsIn K mainGlobals "list" = some none)
    (z8 : PySem.W.nsIn K mainGlobals "max" = some none)
    (z9 : PySem.W.nsIn K mainGlobals "min" = some none)
    (z10 : PySem.W.nsIn K mainGlobals "range" = some none)
    (z11 : PySem.W.nsIn K mainGlobals "str" = some none)
    (z12 : PySem.W.nsIn K mainGlobals "tuple" = some none)
    : ∃ fd : FuncData, (∀ (s : Shared) (v : Value), BindsTo s fd ⟨[v], []⟩ [("script", v)]) ∧ ∀ base : Heap, K.In base → base.Ns mainGlobals mg → FnOk l.prog w K mg base (L2.CX l.prog w) 6 fa fd ["script"] (spM K cl0 fn_law) := by
  have e := hfa.symm.trans (PySem.W.mg_of X G a13)
  cases e
  have F0 := fun_mk (st := s__law_cell) l0 c0 k0
  have b0 := F0.binds (ps := ["script", "k"]) fun _ _ _ _ _ _ us hl => match us, hl with | [_, _], _ => rfl
  have F1 := fun_mk (st := s__law_size) l1 c1 k1
  have b1 := F1.binds (ps := ["script"]) fun _ _ _ _ _ _ us hl => match us, hl with | [_], _ => rfl
  have F2 := fun_mk (st := s__law_order) l2 c2 k2
  have b2 := F2.binds (ps := ["cell", "many"]) fun _ _ _ _ _ _ us hl => match us, hl with | [_, _], _ => rfl
  have F3 := fun_mk (st := s__law_openings) l3 c3 k3
  have b3 := F3.binds (ps := ["cell", "many"]) fun _ _ _ _ _ _ us hl => match us, hl with | [_, _], _ => rfl
  have F4 := fun_mk (st := s_turned_back) l4 c4 k4
  have b4 := F4.binds (ps := ["order"]) fun _ _ _ _ _ _ us hl => match us, hl with | [_], _ => rfl
  have F5 := fun_mk (st := s_plain_dealing) l5 c5 k5
  have b5 := F5.binds (ps := ["order"]) fun _ _ _ _ _ _ us hl => match us, hl with | [_], _ => rfl
  have F6 := fun_mk (st := s__law_same) l6 c6 k6
  have b6 := F6.binds (ps := ["found", "due"]) fun _ _ _ _ _ _ us hl => match us, hl with | [_, _], _ => rfl
  have F7 := fun_mk (st := s_look_at_dealing) l7 c7 k7
  have b7 := F7.binds (ps := ["order", "dealing"]) fun _ _ _ _ _ _ us hl => match us, hl with | [_, _], _ => rfl
  have F8 := fun_mk (st := s_look_at_openings) l8 c8 k8
  have b8 := F8.binds (ps := ["people", "numbers"]) fun _ _ _ _ _ _ us hl => match us, hl with | [_, _], _ => rfl
  have F9 := fun_mk (st := s_made_openings) l9 c9 k9
  have b9 := F9.binds (ps := ["people", "numbers"]) fun _ _ _ _ _ _ us hl => match us, hl with | [_, _], _ => rfl
  have F10 := fun_mk (st := s_boxes_as) l10 c10 k10
  have b10 := F10.binds (ps := ["order", "dealing", "openings", "person"]) fun _ _ _ _ _ _ us hl => match us, hl with | [_, _, _, _], _ => rfl
  have F11 := fun_mk (st := s_finders_as) l11 c11 k11
  have b11 := F11.binds (ps := ["order", "dealing", "openings"]) fun _ _ _ _ _ _ us hl => match us, hl with | [_, _, _], _ => rfl
  have F12 := fun_mk (st := s_opened_as) l12 c12 k12
  have b12 := F12.binds (ps := ["order", "dealing", "openings", "person"]) fun _ _ _ _ _ _ us hl => match us, hl with | [_, _, _, _], _ => rfl
  have F13 := fun_mk (st := s_law) l13 c13 k13
  have b13 := F13.binds (ps := ["script"]) fun _ _ _ _ _ _ us hl => match us, hl with | [_], _ => rfl
  let Z : Facts K mg := { a__law_cell := _, fd__law_cell := _, F__law_cell := F0, b__law_cell := b0, g__law_cell := PySem.W.mg_of X G a0, a__law_size := _, fd__law_size := _, F__law_size := F1, b__law_size := b1, g__law_size := PySem.W.mg_of X G a1, a__law_order := _, fd__law_order := _, F__law_order := F2, b__law_order := b2, g__law_order := PySem.W.mg_of X G a2, a__law_openings := _, fd__law_openings := _, F__law_openings := F3, b__law_openings := b3, g__law_openings := PySem.W.mg_of X G a3, a_turned_back := _, fd_turned_back := _, F_turned_back := F4, b_turned_back := b4, g_turned_back := PySem.W.mg_of X G a4, a_plain_dealing := _, fd_plain_dealing := _, F_plain_dealing := F5, b_plain_dealing := b5, g_plain_dealing := PySem.W.mg_of X G a5, a__law_same := _, fd__law_same := _, F__law_same := F6, b__law_same := b6, g__law_same := PySem.W.mg_of X G a6, a_look_at_dealing := _, fd_look_at_dealing := _, F_look_at_dealing := F7, b_look_at_dealing := b7, g_look_at_dealing := PySem.W.mg_of X G a7, a_look_at_openings := _, fd_look_at_openings := _, F_look_at_openings := F8, b_look_at_openings := b8, g_look_at_openings := PySem.W.mg_of X G a8, a_made_openings := _, fd_made_openings := _, F_made_openings := F9, b_made_openings := b9, g_made_openings := PySem.W.mg_of X G a9, a_boxes_as := _, fd_boxes_as := _, F_boxes_as := F10, b_boxes_as := b10, g_boxes_as := PySem.W.mg_of X G a10, a_finders_as := _, fd_finders_as := _, F_finders_as := F11, b_finders_as := b11, g_finders_as := PySem.W.mg_of X G a11, a_opened_as := _, fd_opened_as := _, F_opened_as := F12, b_opened_as := b12, g_opened_as := PySem.W.mg_of X G a12, a_law := _, fd_law := _, F_law := F13, b_law := b13, g_law := PySem.W.mg_of X G a13, t_MOST_BOXES := _, c_MOST_BOXES := PySem.W.mg_of X G z0, z_abs := PySem.W.mg_none_of X G z1, z_bool := PySem.W.mg_none_of X G z2, z_enumerate := PySem.W.mg_none_of X G z3, z_int := PySem.W.mg_none_of X G z4, z_isinstance := PySem.W.mg_none_of X G z5, z_len := PySem.W.mg_none_of X G z6, z_list := PySem.W.mg_none_of X G z7, z_max := PySem.W.mg_none_of X G z8, z_min := PySem.W.mg_none_of X G z9, z_range := PySem.W.mg_none_of X G z10, z_str := PySem.W.mg_none_of X G z11, z_tuple := PySem.W.mg_none_of X G z12 }
  exact ⟨_, fun s v => .of_eq rfl, fun base _ _ => ok_law Z⟩
end L_k40

namespace L_k40
open PySem PySem.Spec L2 MP
theorem same_int (n : Nat) (i : Int) : fs__law_same (n + 1) [.int i, .int i] = .ok (.val (.bool true)) := by
  show runDef 2 3 (m__law_same (fs__law_same n)) _ = _
  simp [runDef, m__law_same]
theorem same_loop (n : Nat) (ds : List D) (d : D) (hd : d = .list ds ∨ d = .tuple ds) (hl : ds.length ≤ 1000) (h : ∀ d ∈ ds, fs__law_same n [d, d] = .ok (.val (.bool true))) : ∃ s : MP.Slot, lp__law_same_1 (fs__law_same n) [.val d, .val d, .un] = .ok .nx [.val d, .val d, s] := by
  have hlen : lenF [d] = some (.val (.int (ds.length : Int))) := by rcases hd with rfl | rfl <;> simp
  have hat : ∀ i : Nat, (hi : i < ds.length) → ixF d (.int (i : Int)) = some (.val ds[i]) := fun i hi => by
    have := atI_get' hi
    rcases hd with rfl | rfl <;> simp [this]
  obtain ⟨E', e, s, hs, rfl⟩ := for_rng (g := mStore 2) (b := bd__law_same_1 (fs__law_same n)) (mi := mRng rng1F (mA1 (mN lenF (mA1 (mVar 1) mA0)) mA0)) (E := [.val d, .val d, .un]) (E1 := [.val d, .val d, .un]) (n := ds.length)
    (by simp [hlen, f_rng1N (show ds.length ≤ 1000000 by omega)])
    (fun i E => ∃ s : MP.Slot, s.free = true ∧ E = [.val d, .val d, s]) ⟨.un, rfl, rfl⟩
    (fun i hi E ⟨s, hs, hE⟩ => by
      subst hE
      have h1 := h ds[i] (List.getElem_mem _)
      have h2 := hat i hi
      refine ⟨[.val d, .val d, .val (.int (i : Int))], [.val d, .val d, .val (.int (i : Int))], by simp [hs], .inl ?_, _, rfl, rfl⟩
      generalize ds[i] = x at *
      simp [bd__law_same_1, h1, h2])
  exact ⟨s, e⟩
theorem same_list (n : Nat) (ds : List D) (hl : ds.length ≤ 1000) (h : ∀ d ∈ ds, fs__law_same n [d, d] = .ok (.val (.bool true))) : fs__law_same (n + 1) [.list ds, .list ds] = .ok (.val (.bool true)) := by
  obtain ⟨s, e⟩ := same_loop n ds (.list ds) (.inl rfl) hl h
  show runDef 2 3 (m__law_same (fs__law_same n)) _ = _
  simp [runDef, m__law_same, e]
theorem same_tuple (n : Nat) (ds : List D) (hl : ds.length ≤ 1000) (h : ∀ d ∈ ds, fs__law_same n [d, d] = .ok (.val (.bool true))) : fs__law_same (n + 1) [.tuple ds, .tuple ds] = .ok (.val (.bool true)) := by
  obtain ⟨s, e⟩ := same_loop n ds (.tuple ds) (.inr rfl) hl h
  show runDef 2 3 (m__law_same (fs__law_same n)) _ = _
  simp [runDef, m__law_same, e]
theorem same_nl (n : Nat) (as : List Nat) (hl : as.length ≤ 1000) : fs__law_same (n + 2) [.list (as.map nt), .list (as.map nt)] = .ok (.val (.bool true)) :=
  same_list (n + 1) _ (by simpa using hl) fun d hd => by
    obtain ⟨a, _, rfl⟩ := List.mem_map.mp hd
    exact same_int n _
theorem same_nt (n : Nat) (as : List Nat) (hl : as.length ≤ 1000) : fs__law_same (n + 2) [.tuple (as.map nt), .tuple (as.map nt)] = .ok (.val (.bool true)) :=
  same_tuple (n + 1) _ (by simpa using hl) fun d hd => by
    obtain ⟨a, _, rfl⟩ := List.mem_map.mp hd
    exact same_int n _

/-! ### orders and rings, plainly -/
/-- the name in a box -/
def gat (o : List Nat) (i : Nat) : Nat := o.getD i 0
/-- o holds each of the numbers below n once -/
def IsOrd (o : List Nat) (n : Nat) : Prop := o.Perm (List.range n)
theorem IsOrd.len {o : List Nat} {n : Nat} (h : IsOrd o n) : o.length = n := by have := h.length_eq; simpa using this
theorem IsOrd.nodup {o : List Nat} {n : Nat} (h : IsOrd o n) : o.Nodup := h.nodup_iff.mpr List.nodup_range
theorem IsOrd.mem {o : List Nat} {n x : Nat} (h : IsOrd o n) : x ∈ o ↔ x < n := by rw [h.mem_iff, List.mem_range]
theorem gat_eq {o : List Nat} {i : Nat} (h : i < o.length) : gat o i = o[i] := by unfold gat; rw [List.getD_eq_getElem?_getD, List.getElem?_eq_getElem h]; rfl
theorem IsOrd.lt {o : List Nat} {n i : Nat} (h : IsOrd o n) (hi : i < n) : gat o i < n := by
  rw [gat_eq (by rw [h.len]; exact hi)]
  exact h.mem.mp (List.getElem_mem _)
theorem IsOrd.inj {o : List Nat} {n i j : Nat} (h : IsOrd o n) (hi : i < n) (hj : j < n) (e : gat o i = gat o j) : i = j := by
  rw [gat_eq (by rw [h.len]; exact hi), gat_eq (by rw [h.len]; exact hj)] at e
  exact (List.getElem_inj h.nodup).mp e
/-- a walk from b on, each next one the name in the one ahead -/
structure Path (o : List Nat) (n b : Nat) (r : List Nat) : Prop where
  hd : r[0]? = some b
  lt : ∀ x ∈ r, x < n
  nd : r.Nodup
  st : ∀ (i : Nat) (h : i + 1 < r.length), gat o r[i] = r[i + 1]
theorem Path.ne {o : List Nat} {n b : Nat} {r : List Nat} (h : Path o n b r) : r ≠ [] := fun e => by have := h.hd; rw [e] at this; simp at this
theorem Path.pos {o : List Nat} {n b : Nat} {r : List Nat} (h : Path o n b r) : 0 < r.length := List.length_pos_iff.mpr h.ne
theorem Path.zero {o : List Nat} {n b : Nat} {r : List Nat} (h : Path o n b r) : r[0]'h.pos = b := by
  have := h.hd
  rw [List.getElem?_eq_getElem h.pos] at this
  exact Option.some.inj this
theorem nodup_len {r : List Nat} {n : Nat} (hn : r.Nodup) (hl : ∀ x ∈ r, x < n) : r.length ≤ n := by
  have hp : r.Perm ((List.range n).filter fun x => decide (x ∈ r)) := (List.perm_ext_iff_of_nodup hn (List.nodup_range.filter _)).mpr fun x => by
    rw [List.mem_filter, List.mem_range, decide_eq_true_eq]
    exact ⟨fun h => ⟨hl x h, h⟩, fun h => h.2⟩
  rw [hp.length_eq]
  have := List.length_filter_le (fun x => decide (x ∈ r)) (List.range n)
  simpa using this
theorem Path.len {o : List Nat} {n b : Nat} {r : List Nat} (h : Path o n b r) : r.length ≤ n := by
  exact nodup_len h.nd h.lt
theorem Path.start {o : List Nat} {n b : Nat} (hb : b < n) : Path o n b [b] := ⟨rfl, fun x hx => by rw [List.mem_singleton.mp hx]; exact hb, by simp, fun i h => by simp at h⟩
theorem getLast_at {r : List Nat} (h : r ≠ []) : r.getLast h = r[r.length - 1]'(by have := List.length_pos_iff.mpr h; omega) := List.getLast_eq_getElem h
/-- one step on -/
theorem Path.next {o : List Nat} {n b : Nat} {r : List Nat} (O : IsOrd o n) (h : Path o n b r) (hb : gat o (r.getLast h.ne) ≠ b) : Path o n b (r ++ [gat o (r.getLast h.ne)]) := by
  have hp := h.pos
  have hlast : r.getLast h.ne < n := h.lt _ (List.getLast_mem _)
  refine ⟨?_, ?_, ?_, ?_⟩
  · rw [List.getElem?_append_left hp]; exact h.hd
  · intro x hx
    rcases List.mem_append.mp hx with hx | hx
    · exact h.lt x hx
    · rw [List.mem_singleton.mp hx]; exact O.lt hlast
  · rw [List.nodup_append]
    refine ⟨h.nd, by simp, fun a ha c hc e => ?_⟩
    rw [List.mem_singleton.mp hc] at e
    obtain ⟨i, hi, ei⟩ := List.getElem_of_mem ha
    cases i with
    | zero =>
      have := h.zero
      rw [ei] at this
      exact hb (by rw [← e]; exact this)
    | succ i =>
      have h1 := h.st i hi
      rw [ei, e] at h1
      have h2 := O.inj (h.lt _ (List.getElem_mem _)) hlast h1
      rw [getLast_at h.ne] at h2
      have h3 := (List.getElem_inj h.nd).mp h2
      omega
  · intro i hi
    rw [List.length_append, List.length_singleton] at hi
    by_cases hl : i + 1 < r.length
    · rw [List.getElem_append_left (by omega), List.getElem_append_left hl]; exact h.st i hl
    · have e : i = r.length - 1 := by omega
      subst e
      rw [List.getElem_append_left (by omega), List.getElem_append_right (by omega)]
      simp [getLast_at h.ne]
/-- the whole ring -/
structure Ring (o : List Nat) (n b : Nat) (r : List Nat) : Prop extends Path o n b r where
  cl : gat o (r.getLast toPath.ne) = b
theorem Ring.step {o : List Nat} {n b : Nat} {r : List Nat} (h : Ring o n b r) {x : Nat} (hx : x ∈ r) : gat o x ∈ r := by
  obtain ⟨i, hi, rfl⟩ := List.getElem_of_mem hx
  by_cases hl : i + 1 < r.length
  · rw [h.st i hl]; exact List.getElem_mem _
  · have e : i = r.length - 1 := by omega
    have := h.cl
    rw [getLast_at] at this
    subst e
    rw [this, ← h.zero]
    exact List.getElem_mem _
/-- where it comes into a set that is closed, its start is in there, too -/
theorem Ring.back {o : List Nat} {n b : Nat} {r : List Nat} (h : Ring o n b r) {S : Nat → Prop} (hS : ∀ x, S x → S (gat o x)) {x : Nat} (hx : x ∈ r) (hs : S x) : S b := by
  obtain ⟨i, hi, rfl⟩ := List.getElem_of_mem hx
  have key : ∀ (d i : Nat) (hi : i < r.length), i + d = r.length - 1 → S r[i] → S b := by
    intro d
    induction d with
    | zero =>
      intro i hi e hs
      have e' : i = r.length - 1 := by omega
      subst e'
      have := hS _ hs
      have hc := h.cl
      rw [getLast_at] at hc
      rw [hc] at this
      exact this
    | succ d ih =>
      intro i hi e hs
      have := hS _ hs
      rw [h.st i (by omega)] at this
      exact ih (i + 1) (by omega) (by omega) this
  exact key (r.length - 1 - i) i hi (by omega) hs
/-- the rings by their least boxes, all boxes below i in them -/
structure Found (o : List Nat) (n i : Nat) (rs : List (List Nat)) : Prop where
  ring : ∀ r ∈ rs, ∃ b, Ring o n b r ∧ b < i ∧ ∀ x ∈ r, b ≤ x
  hds : (rs.map fun r => r.headD 0).Pairwise (· < ·)
  nd : rs.flatten.Nodup
  all : ∀ x, x < i → x ∈ rs.flatten
theorem Found.start {o : List Nat} {n : Nat} : Found o n 0 [] := ⟨fun r h => by simp at h, .nil, by simp, fun x h => absurd h (Nat.not_lt_zero _)⟩
theorem Found.lt {o : List Nat} {n i : Nat} {rs : List (List Nat)} (h : Found o n i rs) : ∀ x ∈ rs.flatten, x < n := fun x hx => by
  obtain ⟨r, hr, hx⟩ := List.mem_flatten.mp hx
  obtain ⟨b, R, _⟩ := h.ring r hr
  exact R.lt x hx
theorem Found.step {o : List Nat} {n i : Nat} {rs : List (List Nat)} (h : Found o n i rs) {x : Nat} (hx : x ∈ rs.flatten) : gat o x ∈ rs.flatten := by
  obtain ⟨r, hr, hx⟩ := List.mem_flatten.mp hx
  obtain ⟨b, R, _⟩ := h.ring r hr
  exact List.mem_flatten.mpr ⟨r, hr, R.step hx⟩
theorem Found.skip {o : List Nat} {n i : Nat} {rs : List (List Nat)} (h : Found o n i rs) (hi : i ∈ rs.flatten) : Found o n (i + 1) rs :=
  ⟨fun r hr => by obtain ⟨b, R, h1, h2⟩ := h.ring r hr; exact ⟨b, R, by omega, h2⟩, h.hds, h.nd, fun x hx => by
    by_cases e : x = i
    · rw [e]; exact hi
    · exact h.all x (by omega)⟩
theorem head_of {o : List Nat} {n b : Nat} {r : List Nat} (h : Path o n b r) : r.headD 0 = b := by
  have := h.hd
  cases r with
  | nil => simp at this
  | cons a r => simpa using this
theorem Found.more {o : List Nat} {n i : Nat} {rs : List (List Nat)} {r : List Nat} (h : Found o n i rs) (hi : i ∉ rs.flatten) (R : Ring o n i r) : Found o n (i + 1) (rs ++ [r]) := by
  have apart : ∀ x ∈ r, x ∉ rs.flatten := fun x hx hm => hi (R.back (S := fun x => x ∈ rs.flatten) (fun x hx => h.step hx) hx hm)
  refine ⟨?_, ?_, ?_, ?_⟩
  · intro r' hr'
    rcases List.mem_append.mp hr' with hr' | hr'
    · obtain ⟨b, R', h1, h2⟩ := h.ring r' hr'; exact ⟨b, R', by omega, h2⟩
    · rw [List.mem_singleton.mp hr']
      refine ⟨i, R, by omega, fun x hx => ?_⟩
      by_cases e : x < i
      · exact absurd (h.all x e) (apart x hx)
      · omega
  · rw [List.map_append, List.pairwise_append]
    refine ⟨h.hds, by simp, fun a ha c hc => ?_⟩
    obtain ⟨r', hr', rfl⟩ := List.mem_map.mp ha
    obtain ⟨b, R', h1, _⟩ := h.ring r' hr'
    rw [head_of R'.toPath]
    simp only [List.map_cons, List.map_nil, List.mem_singleton] at hc
    rw [hc, head_of R.toPath]
    exact h1
  · rw [List.flatten_append, List.nodup_append]
    refine ⟨h.nd, by simpa using R.nd, fun a ha c hc e => ?_⟩
    subst e
    simp at hc
    exact apart a hc ha
  · intro x hx
    rw [List.flatten_append, List.mem_append]
    by_cases e : x = i
    · right
      rw [e]
      simp
      have := R.hd
      exact List.mem_of_getElem? this
    · exact .inl (h.all x (by omega))
theorem Found.perm {o : List Nat} {n : Nat} {rs : List (List Nat)} (h : Found o n n rs) : rs.flatten.Perm (List.range n) :=
  (List.perm_ext_iff_of_nodup h.nd List.nodup_range).mpr fun x => ⟨fun hx => List.mem_range.mpr (h.lt x hx), fun hx => h.all x (List.mem_range.mp hx)⟩
def rowsD (rs : List (List Nat)) : List D := rs.map fun r => PyData.tuple (r.map nt)
theorem p_rows (rs : List (List Nat)) : pureAll (rs.map fun r => PyData.tuple (r.map nt)) = true := p_map fun r _ => by simp
/-- what stands in a dict of met boxes -/
def MetIs (kds : List (Key × D)) (S : Nat → Prop) : Prop := ∀ x : Nat, (valD kds (.inl (x : Int))).isSome = true ↔ S x
theorem valD_put {κ : Type} [DecidableEq κ] (kds : List (κ × D)) (k k' : κ) (d : D) : valD (putD kds k d) k' = if k' = k then some d else valD kds k' := by
  induction kds with
  | nil =>
    by_cases e : k' = k
    · subst e; simp [putD, valD]
    · have : ¬ k = k' := fun z => e z.symm
      simp [putD, valD, e, this]
  | cons p kds ih =>
    by_cases e1 : p.1 = k
    · by_cases e : k' = k
      · subst e; simp [putD, valD, e1]
      · have h2 : ¬ p.1 = k' := fun z => e (z.symm.trans e1)
        have h3 : ¬ k = k' := fun z => e z.symm
        have hm : ∀ l : List (κ × D), ((l.map fun p => if p.1 = k then (p.1, d) else p).find? fun p => decide (p.1 = k')) = l.find? fun p => decide (p.1 = k') := fun l => by
          induction l with
          | nil => rfl
          | cons q l ih2 =>
            by_cases eq : q.1 = k
            · have : ¬ q.1 = k' := fun z => e (z.symm.trans eq)
              simp [eq, h3, ih2, List.find?_cons]
            · by_cases eq2 : q.1 = k'
              · simp [List.find?_cons, eq, eq2, e]
              · simp [List.find?_cons, eq, eq2, ih2]
        have ha : ((p :: kds).any fun p => decide (p.1 = k)) = true := by simp [e1]
        unfold putD valD
        rw [if_pos ha, hm]
        simp [e]
    · have ha : ((p :: kds).any fun p => decide (p.1 = k)) = kds.any fun p => decide (p.1 = k) := by simp [e1]
      have hp : putD (p :: kds) k d = p :: putD kds k d := by
        unfold putD
        rw [ha]
        split
        · simp [e1]
        · rfl
      rw [hp]
      by_cases e2 : p.1 = k'
      · have : ¬ k' = k := fun z => e1 (e2.trans z)
        simp [valD, e2, this]
      · have h1 : valD (p :: putD kds k d) k' = valD (putD kds k d) k' := by simp [valD, List.find?_cons, e2]
        have h2 : valD (p :: kds) k' = valD kds k' := by simp [valD, List.find?_cons, e2]
        rw [h1, h2, ih]
theorem putD_len {κ : Type} [DecidableEq κ] (kds : List (κ × D)) (k : κ) (d : D) : (putD kds k d).length ≤ kds.length + 1 := by
  unfold putD
  split
  · simp
  · simp
theorem MetIs.put {kds : List (Key × D)} {S : Nat → Prop} (h : MetIs kds S) (x : Nat) (d : D) : MetIs (putD kds (.inl (x : Int)) d) fun y => S y ∨ y = x := fun y => by
  rw [valD_put]
  by_cases e : y = x
  · subst e; simp
  · have : ¬ ((Sum.inl (y : Int) : Key) = Sum.inl (x : Int)) := fun z => e (by have := Sum.inl.inj z; omega)
    rw [if_neg this, h y]
    constructor
    · exact .inl
    · rintro (h | h)
      · exact h
      · exact absurd h e

theorem ord_at {o : List Nat} {n x : Nat} (O : IsOrd o n) (hx : x < n) : atI (o.map nt) (x : Int) = some (.int ((gat o x : Nat) : Int)) := by
  have hxo : x < o.length := by rw [O.len]; exact hx
  rw [atI_map, atI_get' hxo, gat_eq hxo]; rfl

/-! ### rings as closed chains; what an exchange does -/
def chn (o : List Nat) : Nat → List Nat → Nat → Prop
  | x, [], y => gat o x = y
  | x, z :: l, y => gat o x = z ∧ chn o z l y
theorem chn_app (o : List Nat) : ∀ (u : List Nat) (x b y : Nat) (v : List Nat), chn o x (u ++ b :: v) y ↔ chn o x u b ∧ chn o b v y
  | [], x, b, y, v => Iff.rfl
  | z :: u, x, b, y, v => by
    show (gat o x = z ∧ chn o z (u ++ b :: v) y) ↔ (gat o x = z ∧ chn o z u b) ∧ chn o b v y
    rw [chn_app o u z b y v]
    exact ⟨fun ⟨a, b, c⟩ => ⟨⟨a, b⟩, c⟩, fun ⟨⟨a, b⟩, c⟩ => ⟨a, b, c⟩⟩
theorem chn_swap {o o' : List Nat} : ∀ {l : List Nat} {x x' y : Nat}, gat o' x' = gat o x → (∀ z ∈ l, gat o' z = gat o z) → chn o x l y → chn o' x' l y
  | [], x, x', y, h, _, hc => h.trans hc
  | z :: l, x, x', y, h, hl, hc => ⟨h.trans hc.1, chn_swap (hl z List.mem_cons_self) (fun w hw => hl w (List.mem_cons_of_mem _ hw)) hc.2⟩
/-- rings that hold each box once -/
structure Cover (o : List Nat) (n : Nat) (rs : List (List Nat)) : Prop where
  ring : ∀ r ∈ rs, ∃ b l, r = b :: l ∧ chn o b l b
  perm : rs.flatten.Perm (List.range n)
theorem Cover.nd {o : List Nat} {n : Nat} {rs : List (List Nat)} (C : Cover o n rs) : rs.flatten.Nodup := C.perm.nodup_iff.mpr List.nodup_range
theorem Cover.lt {o : List Nat} {n : Nat} {rs : List (List Nat)} (C : Cover o n rs) {r : List Nat} (hr : r ∈ rs) : ∀ x ∈ r, x < n := fun x hx =>
  List.mem_range.mp (C.perm.mem_iff.mp (List.mem_flatten.mpr ⟨r, hr, hx⟩))
theorem Cover.cover {o : List Nat} {n : Nat} {rs : List (List Nat)} (C : Cover o n rs) {x : Nat} (hx : x < n) : ∃ r ∈ rs, x ∈ r :=
  List.mem_flatten.mp (C.perm.mem_iff.mpr (List.mem_range.mpr hx))
theorem chn_of {o : List Nat} : ∀ (l : List Nat) (x y : Nat), (∀ (i : Nat) (h : i + 1 < (x :: l).length), gat o (x :: l)[i] = (x :: l)[i + 1]) → gat o ((x :: l).getLast (by simp)) = y → chn o x l y
  | [], x, y, _, h => h
  | z :: l, x, y, hs, h => ⟨hs 0 (by simp), chn_of l z y (fun i hi => hs (i + 1) (by simpa using hi)) (by simpa using h)⟩
theorem chn_to {o : List Nat} : ∀ (l : List Nat) (x y : Nat), chn o x l y → (∀ (i : Nat) (h : i + 1 < (x :: l).length), gat o (x :: l)[i] = (x :: l)[i + 1]) ∧ gat o ((x :: l).getLast (by simp)) = y
  | [], x, y, h => ⟨fun i hi => by simp at hi, h⟩
  | z :: l, x, y, h => by
    obtain ⟨h1, h2⟩ := chn_to l z y h.2
    refine ⟨fun i hi => ?_, by simpa using h2⟩
    cases i with
    | zero => exact h.1
    | succ i => exact h1 i (by simpa using hi)
theorem Ring.chn {o : List Nat} {n b : Nat} {r : List Nat} (R : Ring o n b r) : ∃ l, r = b :: l ∧ chn o b l b := by
  have hp := R.pos
  have h0 := R.zero
  cases r with
  | nil => simp at hp
  | cons a l =>
    have e : a = b := h0
    subst e
    exact ⟨l, rfl, chn_of l a a R.st R.cl⟩
theorem chn_ring {o : List Nat} {n b : Nat} {l : List Nat} (h : chn o b l b) (hn : (b :: l).Nodup) (hl : ∀ x ∈ b :: l, x < n) : Ring o n b (b :: l) := by
  obtain ⟨h1, h2⟩ := chn_to l b b h
  exact { hd := rfl, lt := hl, nd := hn, st := h1, cl := h2 }
theorem Found.toCover {o : List Nat} {n : Nat} {rs : List (List Nat)} (F : Found o n n rs) : Cover o n rs := ⟨fun r hr => by
  obtain ⟨b, R, _⟩ := F.ring r hr
  obtain ⟨l, e, h⟩ := R.chn
  exact ⟨b, l, e, h⟩, F.perm⟩
/-- a ring told from another of its boxes -/
theorem chn_rot {o : List Nat} {b x : Nat} {l : List Nat} (h : chn o b l b) (hx : x ∈ b :: l) : ∃ l', chn o x l' x ∧ (x :: l').Perm (b :: l) := by
  rcases List.mem_cons.mp hx with rfl | hx
  · exact ⟨l, h, .refl _⟩
  · obtain ⟨u, v, rfl⟩ := List.append_of_mem hx
    obtain ⟨h1, h2⟩ := (chn_app o u b x b v).mp h
    refine ⟨v ++ b :: u, (chn_app o v x b x u).mpr ⟨h2, h1⟩, ?_⟩
    show ((x :: v) ++ (b :: u)).Perm ((b :: u) ++ (x :: v))
    exact List.perm_append_comm
/-- the ring of a box brought to the front, told from it on -/
theorem Cover.front {o : List Nat} {n : Nat} {rs : List (List Nat)} (C : Cover o n rs) {x : Nat} (hx : x < n) : ∃ l rest, Cover o n ((x :: l) :: rest) := by
  obtain ⟨r, hr, hxr⟩ := C.cover hx
  obtain ⟨p, q, rfl⟩ := List.append_of_mem hr
  obtain ⟨b, l, rfl, hc⟩ := C.ring r hr
  obtain ⟨l', hc', hp⟩ := chn_rot hc hxr
  refine ⟨l', p ++ q, ⟨fun r' hr' => ?_, ?_⟩⟩
  · rcases List.mem_cons.mp hr' with rfl | hr'
    · exact ⟨x, l', rfl, hc'⟩
    · exact C.ring r' (by rcases List.mem_append.mp hr' with h | h <;> simp [h])
  · refine List.Perm.trans ?_ C.perm
    rw [List.flatten_cons, List.flatten_append, List.flatten_append, List.flatten_cons, ← List.append_assoc, ← List.append_assoc]
    exact ((hp.append_right p.flatten).trans List.perm_append_comm).append_right q.flatten
theorem Cover.tail {o : List Nat} {n : Nat} {rs : List (List Nat)} (C : Cover o n rs) : ∀ {x : Nat} {l : List Nat} {rest : List (List Nat)}, rs = (x :: l) :: rest → ∀ {y : Nat}, y < n → y ∉ x :: l → ∃ l2 rest2, Cover o n ((x :: l) :: (y :: l2) :: rest2) := by
  rintro x l rest rfl y hy hn
  obtain ⟨r, hr, hyr⟩ := C.cover hy
  rcases List.mem_cons.mp hr with rfl | hr
  · exact absurd hyr hn
  obtain ⟨p, q, rfl⟩ := List.append_of_mem hr
  obtain ⟨b, l1, rfl, hc⟩ := C.ring r (List.mem_cons_of_mem _ hr)
  obtain ⟨l', hc', hp⟩ := chn_rot hc hyr
  refine ⟨l', p ++ q, ⟨fun r' hr' => ?_, ?_⟩⟩
  · rcases List.mem_cons.mp hr' with rfl | hr'
    · exact C.ring _ List.mem_cons_self
    · rcases List.mem_cons.mp hr' with rfl | hr'
      · exact ⟨y, l', rfl, hc'⟩
      · exact C.ring r' (by rcases List.mem_append.mp hr' with h | h <;> simp [h])
  · refine List.Perm.trans ?_ C.perm
    rw [List.flatten_cons, List.flatten_cons, List.flatten_cons, List.flatten_append, List.flatten_append, List.flatten_cons]
    refine List.Perm.append_left _ ?_
    rw [← List.append_assoc, ← List.append_assoc]
    exact ((hp.append_right p.flatten).trans List.perm_append_comm).append_right q.flatten
/-- the names in two boxes changed about -/
def exch (o : List Nat) (a b : Nat) : List Nat := (o.set a (gat o b)).set b (gat o a)
theorem gat_set {o : List Nat} {i x y : Nat} (hi : i < o.length) : gat (o.set i x) y = if y = i then x else gat o y := by
  unfold gat
  rw [List.getD_eq_getElem?_getD, List.getElem?_set, List.getD_eq_getElem?_getD]
  by_cases h : i = y
  · subst h; simp [hi]
  · rw [if_neg h, if_neg fun e => h e.symm]
theorem gat_exch {o : List Nat} {n a b x : Nat} (O : IsOrd o n) (ha : a < n) (hb : b < n) : gat (exch o a b) x = if x = b then gat o a else if x = a then gat o b else gat o x := by
  unfold exch
  rw [gat_set (by rw [List.length_set, O.len]; exact hb), gat_set (by rw [O.len]; exact ha)]
theorem exch_len (o : List Nat) (a b : Nat) : (exch o a b).length = o.length := by simp [exch]
theorem ord_of_inj {o : List Nat} {n : Nat} (hl : o.length = n) (hlt : ∀ i, i < n → gat o i < n) (hi : ∀ i j, i < n → j < n → gat o i = gat o j → i = j) : IsOrd o n := by
  have hnd : o.Nodup := List.pairwise_iff_getElem.mpr fun i j h1 h2 hij e => by
    have := hi i j (by omega) (by omega) (by rw [gat_eq h1, gat_eq h2, e])
    omega
  have hm : ∀ x ∈ o, x < n := fun x hx => by
    obtain ⟨i, h1, rfl⟩ := List.getElem_of_mem hx
    have := hlt i (by omega)
    rwa [gat_eq h1] at this
  refine (List.perm_ext_iff_of_nodup hnd List.nodup_range).mpr fun x => ⟨fun hx => List.mem_range.mpr (hm x hx), fun hx => ?_⟩
  by_cases h : x ∈ o
  · exact h
  · have := nodup_len (r := x :: o) (n := n) (List.nodup_cons.mpr ⟨h, hnd⟩) fun y hy => by
      rcases List.mem_cons.mp hy with rfl | hy
      · exact List.mem_range.mp hx
      · exact hm y hy
    rw [List.length_cons] at this
    omega
def sw (a b x : Nat) : Nat := if x = b then a else if x = a then b else x
theorem gat_sw {o : List Nat} {n a b x : Nat} (O : IsOrd o n) (ha : a < n) (hb : b < n) : gat (exch o a b) x = gat o (sw a b x) := by
  rw [gat_exch O ha hb]
  unfold sw
  split
  · rfl
  · split <;> rfl
theorem sw_lt {n a b x : Nat} (ha : a < n) (hb : b < n) (hx : x < n) : sw a b x < n := by
  unfold sw
  split
  · exact ha
  · split <;> assumption
theorem sw_inj {a b x y : Nat} (h : sw a b x = sw a b y) : x = y := by
  unfold sw at h
  split at h <;> split at h <;> (try split at h) <;> (try split at h) <;> omega
theorem exch_ord {o : List Nat} {n a b : Nat} (O : IsOrd o n) (ha : a < n) (hb : b < n) : IsOrd (exch o a b) n :=
  ord_of_inj (by rw [exch_len, O.len]) (fun i hi => by rw [gat_sw O ha hb]; exact O.lt (sw_lt ha hb hi)) fun i j hi hj e => by
    rw [gat_sw O ha hb, gat_sw O ha hb] at e
    exact sw_inj (O.inj (sw_lt ha hb hi) (sw_lt ha hb hj) e)
theorem exch_comm (o : List Nat) (a b : Nat) : exch o a b = exch o b a := by
  unfold exch
  by_cases h : a = b
  · subst h; rfl
  · exact List.set_comm _ _ h
/-! one ring falls in two, or two become one -/
theorem cover_split {o : List Nat} {n a b : Nat} {u v : List Nat} {rest : List (List Nat)} (O : IsOrd o n) (C : Cover o n ((a :: (u ++ b :: v)) :: rest)) : Cover (exch o a b) n ((a :: v) :: (b :: u) :: rest) := by
  have ha : a < n := C.lt List.mem_cons_self a List.mem_cons_self
  have hb : b < n := C.lt List.mem_cons_self b (by simp)
  obtain ⟨b', l, e, hc⟩ := C.ring _ List.mem_cons_self
  cases e
  obtain ⟨h1, h2⟩ := (chn_app o u a b a v).mp hc
  have hnd := C.nd
  rw [List.flatten_cons, List.nodup_append] at hnd
  obtain ⟨n1, n2, n3⟩ := hnd
  have same : ∀ z, z ≠ a → z ≠ b → gat (exch o a b) z = gat o z := fun z hza hzb => by rw [gat_exch O ha hb, if_neg hzb, if_neg hza]
  have hna : ∀ z ∈ u ++ b :: v, z ≠ a := fun z hz e => (List.nodup_cons.mp n1).1 (e ▸ hz)
  have hnb : (∀ z ∈ u, z ≠ b) ∧ ∀ z ∈ v, z ≠ b := by
    have := (List.nodup_append.mp (List.nodup_cons.mp n1).2)
    exact ⟨fun z hz e => this.2.2 z hz b List.mem_cons_self e, fun z hz e => (List.nodup_cons.mp this.2.1).1 (e ▸ hz)⟩
  have hab : b ≠ a := hna b (by simp)
  refine ⟨fun r hr => ?_, ?_⟩
  · rcases List.mem_cons.mp hr with rfl | hr
    · refine ⟨a, v, rfl, chn_swap (x := b) ?_ (fun z hz => same z (hna z (by simp [hz])) (hnb.2 z hz)) h2⟩
      rw [gat_exch O ha hb, if_neg (Ne.symm hab), if_pos rfl]
    · rcases List.mem_cons.mp hr with rfl | hr
      · refine ⟨b, u, rfl, chn_swap (x := a) ?_ (fun z hz => same z (hna z (by simp [hz])) (hnb.1 z hz)) h1⟩
        rw [gat_exch O ha hb, if_pos rfl]
      · obtain ⟨c, l, rfl, hc'⟩ := C.ring r (List.mem_cons_of_mem _ hr)
        have hz : ∀ z ∈ c :: l, z ≠ a ∧ z ≠ b := fun z hz => ⟨fun e => n3 a (by simp) z (List.mem_flatten.mpr ⟨_, hr, hz⟩) e.symm, fun e => n3 b (by simp) z (List.mem_flatten.mpr ⟨_, hr, hz⟩) e.symm⟩
        refine ⟨c, l, rfl, chn_swap ?_ (fun z h => ?_) hc'⟩
        · exact same c (hz c (by simp)).1 (hz c (by simp)).2
        · exact same z (hz z (by simp [h])).1 (hz z (by simp [h])).2
  · refine List.Perm.trans ?_ C.perm
    rw [List.flatten_cons, List.flatten_cons, List.flatten_cons, ← List.append_assoc]
    refine List.Perm.append_right _ ?_
    show (a :: (v ++ (b :: u))).Perm (a :: (u ++ (b :: v)))
    refine List.Perm.cons a ?_
    exact (List.perm_middle.trans (List.Perm.cons b List.perm_append_comm)).trans List.perm_middle.symm
theorem cover_merge {o : List Nat} {n a b : Nat} {u v : List Nat} {rest : List (List Nat)} (O : IsOrd o n) (C : Cover o n ((a :: v) :: (b :: u) :: rest)) : Cover (exch o a b) n ((a :: (u ++ b :: v)) :: rest) := by
  have ha : a < n := C.lt List.mem_cons_self a List.mem_cons_self
  have hb : b < n := C.lt (List.mem_cons_of_mem _ List.mem_cons_self) b List.mem_cons_self
  obtain ⟨_, _, e, h2⟩ := C.ring _ List.mem_cons_self
  cases e
  obtain ⟨_, _, e, h1⟩ := C.ring _ (List.mem_cons_of_mem _ List.mem_cons_self)
  cases e
  have hnd := C.nd
  rw [List.flatten_cons, List.flatten_cons, List.nodup_append, List.nodup_append] at hnd
  obtain ⟨n1, ⟨n4, n5, n6⟩, n3⟩ := hnd
  have same : ∀ z, z ≠ a → z ≠ b → gat (exch o a b) z = gat o z := fun z hza hzb => by rw [gat_exch O ha hb, if_neg hzb, if_neg hza]
  have hab : a ≠ b := n3 a (by simp) b (by simp)
  refine ⟨fun r hr => ?_, ?_⟩
  · rcases List.mem_cons.mp hr with rfl | hr
    · refine ⟨a, u ++ b :: v, rfl, (chn_app _ u a b a v).mpr ⟨chn_swap (x := b) ?_ (fun z hz => same z (fun e => n3 a (by simp) z (by simp [hz]) e.symm) fun e => (List.nodup_cons.mp n4).1 (e ▸ hz)) h1, chn_swap (x := a) ?_ (fun z hz => same z (fun e => (List.nodup_cons.mp n1).1 (e ▸ hz)) fun e => n3 z (by simp [hz]) b (by simp) e) h2⟩⟩
      · rw [gat_exch O ha hb, if_neg hab, if_pos rfl]
      · rw [gat_exch O ha hb, if_pos rfl]
    · obtain ⟨c, l, rfl, hc'⟩ := C.ring r (List.mem_cons_of_mem _ (List.mem_cons_of_mem _ hr))
      have hz : ∀ z ∈ c :: l, z ≠ a ∧ z ≠ b := fun z hz => ⟨fun e => n3 a (by simp) z (List.mem_append.mpr (.inr (List.mem_flatten.mpr ⟨_, hr, hz⟩))) e.symm, fun e => n6 b (by simp) z (List.mem_flatten.mpr ⟨_, hr, hz⟩) e.symm⟩
      refine ⟨c, l, rfl, chn_swap ?_ (fun z h => ?_) hc'⟩
      · exact same c (hz c (by simp)).1 (hz c (by simp)).2
      · exact same z (hz z (by simp [h])).1 (hz z (by simp [h])).2
  · refine List.Perm.trans ?_ C.perm
    rw [List.flatten_cons, List.flatten_cons, List.flatten_cons, ← List.append_assoc]
    refine List.Perm.append_right _ ?_
    show (a :: (u ++ (b :: v))).Perm (a :: (v ++ (b :: u)))
    refine List.Perm.cons a ?_
    exact (List.perm_middle.trans (List.Perm.cons b List.perm_append_comm)).trans List.perm_middle.symm
/-- what an exchange of two boxes does -/
theorem exch_cover {o : List Nat} {n a b : Nat} {rs : List (List Nat)} (O : IsOrd o n) (C : Cover o n rs) (ha : a < n) (hb : b < n) (hab : a ≠ b) :
    ∃ u v rest, (Cover o n ((a :: (u ++ b :: v)) :: rest) ∧ Cover (exch o a b) n ((a :: v) :: (b :: u) :: rest)) ∨ (Cover o n ((a :: v) :: (b :: u) :: rest) ∧ Cover (exch o a b) n ((a :: (u ++ b :: v)) :: rest)) := by
  obtain ⟨l, rest, C1⟩ := C.front ha
  by_cases h : b ∈ a :: l
  · have hbl : b ∈ l := by
      rcases List.mem_cons.mp h with e | h
      · exact absurd e.symm hab
      · exact h
    obtain ⟨u, v, rfl⟩ := List.append_of_mem hbl
    exact ⟨u, v, rest, .inl ⟨C1, cover_split O C1⟩⟩
  · obtain ⟨u, rest2, C2⟩ := C1.tail rfl hb h
    exact ⟨u, l, rest2, .inr ⟨C2, cover_merge O C2⟩⟩

theorem enum_at' {ds : List D} {i : Nat} (h : i < (enumD 0 ds).length) : (enumD 0 ds)[i] = .tuple [.int (i : Int), ds[i]'(by rw [enumD_len] at h; exact h)] := by
  obtain ⟨d, e1, e2⟩ := enumD_get ds 0 i _ (List.getElem?_eq_getElem h)
  rw [e2]
  have hi : i < ds.length := by rw [enumD_len] at h; exact h
  rw [List.getElem?_eq_getElem hi] at e1
  cases e1
  rw [Nat.zero_add]

theorem sp_order (c : Int) (m : Nat) (hm : m ≤ 1000) : ∃ o : List Nat, IsOrd o m ∧ fn__law_order [.int c, .int (m : Int)] = .ok (.val (.tuple (o.map nt))) := by
  obtain ⟨E', e, c', o, s, hs, ho, rfl⟩ := for_rng (g := mStore 3) (b := bd__law_order_1) (mi := mRng rng1F (mA1 (mVar 1) mA0)) (E := [.val (.int c), .val (.int (m : Int)), .own (.lst []), .un]) (E1 := [.val (.int c), .val (.int (m : Int)), .own (.lst []), .un]) (n := m)
    (by simp [f_rng1N (show m ≤ 1000000 by omega)])
    (fun i E => ∃ (c : Int) (o : List Nat) (s : Slot), s.free = true ∧ IsOrd o i ∧ E = [.val (.int c), .val (.int (m : Int)), .own (.lst (o.map nt)), s]) ⟨c, [], .un, rfl, List.Perm.refl _, rfl⟩
    (fun i hi E ⟨c, o, s, hs, ho, hE⟩ => by
      subst hE
      have hl := ho.len
      have h1 : 0 ≤ c % ((i : Int) + 1) := Int.emod_nonneg _ (by omega)
      have h2 : c % ((i : Int) + 1) < (i : Int) + 1 := Int.emod_lt_of_pos _ (by omega)
      have hk := divOk (j := (i : Int) + 1) (by omega) (by omega)
      have hins : insF (o.map nt) [.int (c % ((i : Int) + 1)), .int (i : Int)] = some ((o.take (c % ((i : Int) + 1)).toNat ++ [i] ++ o.drop (c % ((i : Int) + 1)).toNat).map nt, .none) := by
        unfold insF
        simp only
        rw [ok_pos ⟨by rw [List.length_map, hl]; unfold big; omega, h1, by omega⟩]
        simp [List.map_take, List.map_drop]
      refine ⟨_, [.val (.int (c / ((i : Int) + 1))), .val (.int (m : Int)), .own (.lst ((o.take (c % ((i : Int) + 1)).toNat ++ [i] ++ o.drop (c % ((i : Int) + 1)).toNat).map nt)), .val (.int (i : Int))], by simp [hs]; rfl, .inl ?_, _, _, _, rfl, ?_, rfl⟩
      · simp [bd__law_order_1, hk, hins, show (0 : Int) < (i : Int) + 1 by omega]
      · show List.Perm _ _
        rw [List.range_succ]
        refine (List.Perm.trans ?_ (List.Perm.append_right [i] ho))
        rw [List.append_assoc]
        refine (List.perm_append_comm.append_left _ |>.trans ?_)
        rw [← List.append_assoc, List.take_append_drop])
  have e' : lp__law_order_1 [.val (.int c), .val (.int (m : Int)), .own (.lst []), .un] = _ := e
  exact ⟨o, ho, by simp [fn__law_order, runDef, m__law_order, lstF, e']⟩

/-! ### openings -/
/-- a number for each of n people, no more than n -/
structure IsOpn (op : List Nat) (n : Nat) : Prop where
  len : op.length = n
  le : ∀ x ∈ op, x ≤ n
def wat (op : List Nat) (i : Nat) : Nat := op.getD i 0
theorem wat_eq {op : List Nat} {i : Nat} (h : i < op.length) : wat op i = op[i] := by unfold wat; rw [List.getD_eq_getElem?_getD, List.getElem?_eq_getElem h]; rfl
theorem IsOpn.at {op : List Nat} {n i : Nat} (h : IsOpn op n) (hi : i < n) : atI (op.map nt) (i : Int) = some (.int ((wat op i : Nat) : Int)) := by
  have hl : i < op.length := by rw [h.len]; exact hi
  rw [atI_map, atI_get' hl, wat_eq hl]; rfl
theorem IsOpn.wle {op : List Nat} {n i : Nat} (h : IsOpn op n) (hi : i < n) : wat op i ≤ n := by
  have hl : i < op.length := by rw [h.len]; exact hi
  rw [wat_eq hl]; exact h.le _ (List.getElem_mem _)
theorem sp_openings (c : Int) (m : Nat) (hm : m ≤ 1000) : ∃ op : List Nat, IsOpn op m ∧ fn__law_openings [.int c, .int (m : Int)] = .ok (.val (.tuple (op.map nt))) := by
  obtain ⟨E', e, c', op, s, hs, ho, hle, rfl⟩ := for_rng (g := mStore 3) (b := bd__law_openings_1) (mi := mRng rng1F (mA1 (mVar 1) mA0)) (E := [.val (.int c), .val (.int (m : Int)), .own (.lst []), .un]) (E1 := [.val (.int c), .val (.int (m : Int)), .own (.lst []), .un]) (n := m)
    (by simp [f_rng1N (show m ≤ 1000000 by omega)])
    (fun i E => ∃ (c : Int) (o : List Nat) (s : MP.Slot), s.free = true ∧ o.length = i ∧ (∀ x ∈ o, x ≤ m) ∧ E = [.val (.int c), .val (.int (m : Int)), .own (.lst (o.map nt)), s]) ⟨c, [], .un, rfl, rfl, by simp, rfl⟩
    (fun i hi E ⟨c, o, s, hs, ho, hle, hE⟩ => by
      subst hE
      have h1 : 0 ≤ c % ((m : Int) + 1) := Int.emod_nonneg _ (by omega)
      have h2 : c % ((m : Int) + 1) < (m : Int) + 1 := Int.emod_lt_of_pos _ (by omega)
      have hk := divOk (j := (m : Int) + 1) (by omega) (by omega)
      obtain ⟨x, hx⟩ : ∃ x : Nat, c % ((m : Int) + 1) = (x : Int) := ⟨(c % ((m : Int) + 1)).toNat, by omega⟩
      have happ : appF (o.map nt) [.int (x : Int)] = some ((o ++ [x]).map nt, .none) := by
        unfold appF
        simp only
        rw [ok_pos (by rw [List.length_map, ho]; unfold big; omega)]
        simp
      refine ⟨[.val (.int c), .val (.int (m : Int)), .own (.lst (o.map nt)), .val (.int (i : Int))], [.val (.int (c / ((m : Int) + 1))), .val (.int (m : Int)), .own (.lst ((o ++ [x]).map nt)), .val (.int (i : Int))], by simp [hs], .inl ?_, _, o ++ [x], _, rfl, by simp [ho], ?_, rfl⟩
      · simp [bd__law_openings_1, hk, hx, happ, show (0 : Int) < (m : Int) + 1 by omega]
      · intro y hy
        rcases List.mem_append.mp hy with hy | hy
        · exact hle y hy
        · rw [List.mem_singleton.mp hy]; omega)
  have e' : lp__law_openings_1 [.val (.int c), .val (.int (m : Int)), .own (.lst []), .un] = _ := e
  exact ⟨op, ⟨ho, hle⟩, by simp [fn__law_openings, runDef, m__law_openings, lstF, e']⟩

/-! ### boxes opened by a dealing -/
def sq (o d : List Nat) (p : Nat) : Nat → Nat
  | 0 => gat d p
  | i + 1 => gat d (gat o (sq o d p i))
structure Stop (o d : List Nat) (w p L : Nat) : Prop where
  le : L ≤ w
  no : ∀ i, i + 1 < L → gat o (sq o d p i) ≠ p
  fin : L = w ∨ ∃ i, L = i + 1 ∧ gat o (sq o d p i) = p
theorem Stop.uniq {o d : List Nat} {w p L M : Nat} (h : Stop o d w p L) (g : Stop o d w p M) : L = M := by
  have key : ∀ {L M : Nat}, Stop o d w p L → Stop o d w p M → ¬ L < M := fun {L M} h g hl => by
    rcases h.fin with e | ⟨i, rfl, e⟩
    · have := g.le; omega
    · exact g.no i hl e
  have h1 := key h g
  have h2 := key g h
  omega
theorem stop_exists (o d : List Nat) (p : Nat) : ∀ w, ∃ L, Stop o d w p L
  | 0 => ⟨0, Nat.le_refl _, fun i h => by omega, .inl rfl⟩
  | w + 1 => by
    obtain ⟨L, h⟩ := stop_exists o d p w
    rcases h.fin with e | e
    · subst e
      cases L with
      | zero => exact ⟨1, by omega, fun i h => by omega, .inl rfl⟩
      | succ L =>
        by_cases hc : gat o (sq o d p L) = p
        · exact ⟨L + 1, by omega, h.no, .inr ⟨L, rfl, hc⟩⟩
        · refine ⟨L + 1 + 1, by omega, fun i hi => ?_, .inl rfl⟩
          by_cases hi2 : i + 1 < L + 1
          · exact h.no i hi2
          · have : i = L := by omega
            subst this; exact hc
    · exact ⟨L, by have := h.le; omega, h.no, .inr e⟩
theorem sq_lt {o d : List Nat} {n p : Nat} (O : IsOrd o n) (D : IsOrd d n) (hp : p < n) : ∀ i, sq o d p i < n
  | 0 => D.lt hp
  | i + 1 => D.lt (O.lt (sq_lt O D hp i))
def sqs (o d : List Nat) (p L : Nat) : List Nat := (List.range L).map (sq o d p)
theorem sqs_len (o d : List Nat) (p L : Nat) : (sqs o d p L).length = L := by simp [sqs]
theorem sqs_succ (o d : List Nat) (p L : Nat) : sqs o d p (L + 1) = sqs o d p L ++ [sq o d p L] := by simp [sqs, List.range_succ]
theorem sqs_last (o d : List Nat) (p i : Nat) : atI ((sqs o d p (i + 1)).map nt) (-1) = some (.int ((sq o d p i : Nat) : Int)) := by
  have hne : sqs o d p (i + 1) ≠ [] := fun z => by have := sqs_len o d p (i + 1); rw [z] at this; cases this
  rw [atI_map, atI_last' hne, List.getLast_eq_getElem]
  simp [sqs]
def sD (o d : List Nat) (p L : Nat) : List D := (sqs o d p L).map nt
theorem sD_len (o d : List Nat) (p L : Nat) : (sD o d p L).length = L := by simp [sD, sqs_len]
theorem sD_0 (o d : List Nat) (p : Nat) : sD o d p 0 = [] := rfl
theorem sD_app (o d : List Nat) (p i : Nat) (h : i < 100000) : appF (sD o d p i) [.int ((sq o d p i : Nat) : Int)] = some (sD o d p (i + 1), .none) := by
  unfold sD
  rw [sqs_succ]
  exact app_n nt (by rw [sqs_len]; exact h)
theorem sD_last (o d : List Nat) (p i : Nat) : atI (sD o d p (i + 1)) (-1) = some (.int ((sq o d p i : Nat) : Int)) := sqs_last o d p i
def SA (A B W : List D) (o d : List Nat) (p i : Nat) : SEnv := [.val (.tuple A), .val (.tuple B), .val (.tuple W), .val (.int (p : Int)), .own (.lst (sD o d p i)), .val (.int ((sq o d p i : Nat) : Int))]
structure WFacts (o d : List Nat) (A B : List D) (p n : Nat) : Prop where
  hg : ∀ i, atI A ((sq o d p i : Nat) : Int) = some (.int ((gat o (sq o d p i) : Nat) : Int))
  hg2 : ∀ i, atI B ((gat o (sq o d p i) : Nat) : Int) = some (.int ((sq o d p (i + 1) : Nat) : Int))
  h0 : atI B (p : Int) = some (.int ((sq o d p 0 : Nat) : Int))
theorem wfacts {o d : List Nat} {n p : Nat} (O : IsOrd o n) (D : IsOrd d n) (hp : p < n) : WFacts o d (o.map nt) (d.map nt) p n :=
  ⟨fun i => ord_at O (sq_lt O D hp i), fun i => ord_at D (O.lt (sq_lt O D hp i)), ord_at D hp⟩
theorem sp_boxes_as {o d op : List Nat} {n p L : Nat} (O : IsOrd o n) (D : IsOrd d n) (P : IsOpn op n) (hn : n ≤ 1000) (hp : p < n) (hS : Stop o d (wat op p) p L) :
    fn_boxes_as [.tuple (o.map nt), .tuple (d.map nt), .tuple (op.map nt), .int (p : Int)] = .ok (.own (.lst (sD o d p L))) := by
  have hw := P.wle hp
  have hop := P.at hp
  have hle := hS.le
  obtain ⟨hg, hg2, h0⟩ := wfacts O D hp
  generalize wat op p = w at *
  generalize o.map nt = A at *
  generalize d.map nt = B at *
  generalize op.map nt = W at *
  have step : ∀ i, i < n → gat o (sq o d p i) ≠ p → bd_boxes_as_1 (SA A B W o d p i) = .ok .nx (SA A B W o d p (i + 1)) := fun i hi hne => by
    have hne' : ¬ ((gat o (sq o d p i) : Nat) : Int) = (p : Int) := by omega
    simp [SA, bd_boxes_as_1, sD_app o d p i (by omega), hg, hg2, hne, hne']
  have cond : ∀ i, i < w → mBl (m2 ltF (mN lenF (mA1 (mVar 4) mA0)) (m2 ixF (mVar 2) (mVar 3))) (SA A B W o d p i) = .ok true (SA A B W o d p i) := fun i hi => by
    simp [SA, sD_len, hop, hi]
  have key : ∃ x : Int, lp_boxes_as_1 (SA A B W o d p 0) = .ok .nx [.val (.tuple A), .val (.tuple B), .val (.tuple W), .val (.int (p : Int)), .own (.lst (sD o d p L)), .val (.int x)] ∨ lp_boxes_as_1 (SA A B W o d p 0) = .ok (.rt (.bor 4)) [.val (.tuple A), .val (.tuple B), .val (.tuple W), .val (.int (p : Int)), .own (.lst (sD o d p L)), .val (.int x)] := by
    have ret : ∀ i, i < n → gat o (sq o d p i) = p → bd_boxes_as_1 (SA A B W o d p i) = .ok (.rt (.bor 4)) [.val (.tuple A), .val (.tuple B), .val (.tuple W), .val (.int (p : Int)), .own (.lst (sD o d p (i + 1))), .val (.int ((sq o d p i : Nat) : Int))] := fun i hi e => by
      simp [SA, bd_boxes_as_1, sD_app o d p i (by omega), hg, hg2, e]
    by_cases hlast : ∃ i, L = i + 1 ∧ gat o (sq o d p i) = p
    · obtain ⟨i, rfl, e⟩ := hlast
      exact ⟨_, .inr (while_ret (SA A B W o d p) i (fun j hj => cond j (by omega)) (fun j hj => step j (by omega) (hS.no j (by omega))) (ret i (by omega) e))⟩
    · have hLw : L = w := by
        rcases hS.fin with e | e
        · exact e
        · exact absurd e hlast
      refine ⟨_, .inl (while_end (SA A B W o d p) L (fun j hj => cond j (by omega)) (fun j hj => step j (by omega) (fun e => ?_)) ?_)⟩
      · by_cases h : j + 1 < L
        · exact hS.no j h e
        · exact hlast ⟨j, by omega, e⟩
      · simp [SA, sD_len, hop, hLw]
  obtain ⟨x, e | e⟩ := key
  · simp only [SA, sD_0] at e
    simp [fn_boxes_as, runDef, m_boxes_as, lstF, h0, e]
  · simp only [SA, sD_0] at e
    simp [fn_boxes_as, runDef, m_boxes_as, lstF, h0, e]

theorem min_there : ∀ l : List Nat, l ≠ [] → ∃ m ∈ l, ∀ y ∈ l, m ≤ y
  | [], h => absurd rfl h
  | [a], _ => ⟨a, by simp, by simp⟩
  | a :: b :: l, _ => by
    obtain ⟨m, h1, h2⟩ := min_there (b :: l) (by simp)
    by_cases h : m ≤ a
    · exact ⟨m, List.mem_cons_of_mem _ h1, fun y hy => by
        rcases List.mem_cons.mp hy with rfl | hy
        · exact h
        · exact h2 y hy⟩
    · exact ⟨a, List.mem_cons_self, fun y hy => by
        rcases List.mem_cons.mp hy with rfl | hy
        · exact Nat.le_refl _
        · have := h2 y hy; omega⟩
theorem max_there' : ∀ l : List Nat, l ≠ [] → ∃ m ∈ l, ∀ y ∈ l, y ≤ m
  | [], h => absurd rfl h
  | [a], _ => ⟨a, by simp, by simp⟩
  | a :: b :: l, _ => by
    obtain ⟨m, h1, h2⟩ := max_there' (b :: l) (by simp)
    by_cases h : a ≤ m
    · exact ⟨m, List.mem_cons_of_mem _ h1, fun y hy => by
        rcases List.mem_cons.mp hy with rfl | hy
        · exact h
        · exact h2 y hy⟩
    · exact ⟨a, List.mem_cons_self, fun y hy => by
        rcases List.mem_cons.mp hy with rfl | hy
        · exact Nat.le_refl _
        · have := h2 y hy; omega⟩
theorem sp_look_opn {op : List Nat} {n : Nat} (h : IsOpn op n) (h1 : 1 ≤ n) (h2 : n ≤ 60) : fn_look_at_openings [.int (n : Int), .tuple (op.map nt)] = .ok (.val .none) := by
  have hne : op ≠ [] := fun z => by have := h.len; rw [z] at this; simp at this; omega
  obtain ⟨a, ha1, ha2⟩ := min_there op hne
  obtain ⟨b, hb1, hb2⟩ := max_there' op hne
  have e1 := f_minTN ha1 ha2
  have e2 := f_maxTN hb1 hb2
  have hb := h.le b hb1
  have hlen := h.len
  generalize hA : op.map nt = A at *
  have hAl : A.length = n := by rw [← hA]; simpa using hlen
  simp [fn_look_at_openings, runDef, m_look_at_openings, hAl, e1, e2, show ¬ (n : Int) < 1 by omega, show ¬ (60 : Int) < (n : Int) by omega, show ¬ (a : Int) < 0 by omega, show ¬ n < b by omega, show ¬ n < 1 by omega, show ¬ 60 < n by omega, show ¬ n = 0 by omega]

theorem sp_look_dealing {o d : List Nat} {n : Nat} (O : IsOrd o n) (D : IsOrd d n) : fn_look_at_dealing [.tuple (o.map nt), .tuple (d.map nt)] = .ok (.val .none) := by
  have h1 : (o.map nt).length = n := by rw [List.length_map, O.len]
  have h2 : (d.map nt).length = n := by rw [List.length_map, D.len]
  generalize o.map nt = A at *
  generalize d.map nt = B at *
  simp [fn_look_at_dealing, runDef, m_look_at_dealing, h1, h2]
theorem sp_made_openings {op : List Nat} {n : Nat} (h : IsOpn op n) (h1 : 1 ≤ n) (h2 : n ≤ 60) : fn_made_openings [.int (n : Int), .tuple (op.map nt)] = .ok (.val (.tuple (op.map nt))) := by
  have e := sp_look_opn h h1 h2
  generalize op.map nt = A at *
  simp [fn_made_openings, runDef, m_made_openings, e]
theorem sp_opened_as {o d op : List Nat} {n p L : Nat} (O : IsOrd o n) (D : IsOrd d n) (P : IsOpn op n) (h1 : 1 ≤ n) (hn : n ≤ 60) (hp : p < n) (hS : Stop o d (wat op p) p L) :
    fn_opened_as [.tuple (o.map nt), .tuple (d.map nt), .tuple (op.map nt), .int (p : Int)] = .ok (.own (.lst (sD o d p L))) := by
  have e1 := sp_look_dealing O D
  have e2 := sp_made_openings P h1 hn
  have e3 := sp_boxes_as O D P (by omega) hp hS
  have hl : (o.map nt).length = n := by rw [List.length_map, O.len]
  generalize o.map nt = A at *
  generalize d.map nt = B at *
  generalize op.map nt = W at *
  have h3 : ¬ (n : Int) ≤ (p : Int) := by omega
  have h4 : ¬ n ≤ p := by omega
  have h5 : ¬ (p : Int) < 0 := by omega
  simp [fn_opened_as, runDef, m_opened_as, e1, hl, e2, e3, h3, h4, h5]
open Classical in
/-- does a person find -/
noncomputable def fnd (o d op : List Nat) (p : Nat) : Bool := decide (∃ i, Stop o d (wat op p) p (i + 1) ∧ gat o (sq o d p i) = p)
open Classical in
theorem fnd_of {o d op : List Nat} {p L : Nat} (hS : Stop o d (wat op p) p L) : (L = 0 → fnd o d op p = false) ∧ ∀ i, L = i + 1 → fnd o d op p = decide (gat o (sq o d p i) = p) := by
  refine ⟨fun h => decide_eq_false fun ⟨i, h1, _⟩ => ?_, fun i h => ?_⟩
  · have := hS.uniq h1; omega
  · subst h
    unfold fnd
    by_cases hc : gat o (sq o d p i) = p
    · rw [decide_eq_true ⟨i, hS, hc⟩, decide_eq_true hc]
    · rw [decide_eq_false hc]
      exact decide_eq_false fun ⟨j, h1, h2⟩ => by
        have := hS.uniq h1
        have : i = j := by omega
        subst this; exact hc h2
noncomputable def those (o d op : List Nat) (i : Nat) : List Nat := (List.range i).filter (fnd o d op)
theorem those_len (o d op : List Nat) (i : Nat) : (those o d op i).length ≤ i := by
  have := List.length_filter_le (fnd o d op) (List.range i)
  simpa [those] using this
theorem those_succ (o d op : List Nat) (i : Nat) : those o d op (i + 1) = if fnd o d op i = true then those o d op i ++ [i] else those o d op i := by
  unfold those
  rw [List.range_succ, List.filter_append]
  by_cases h : fnd o d op i = true
  · simp [h]
  · simp [h]
theorem sp_finders_as {o d op : List Nat} {n : Nat} (O : IsOrd o n) (D : IsOrd d n) (P : IsOpn op n) (h1 : 1 ≤ n) (hn : n ≤ 60) :
    fn_finders_as [.tuple (o.map nt), .tuple (d.map nt), .tuple (op.map nt)] = .ok (.val (.tuple ((those o d op n).map nt))) := by
  have e1 := sp_look_dealing O D
  have e2 := sp_made_openings P h1 hn
  have hl : (o.map nt).length = n := by rw [List.length_map, O.len]
  obtain ⟨E', e, s4, s5, h4, h5, rfl⟩ := for_rng (g := mStore 4) (b := bd_finders_as_1) (mi := mRng rng1F (mA1 (mN lenF (mA1 (mVar 0) mA0)) mA0))
    (E := [.val (.tuple (o.map nt)), .val (.tuple (d.map nt)), .val (.tuple (op.map nt)), .own (.lst ((those o d op 0).map nt)), .un, .un]) (E1 := [.val (.tuple (o.map nt)), .val (.tuple (d.map nt)), .val (.tuple (op.map nt)), .own (.lst ((those o d op 0).map nt)), .un, .un]) (n := n)
    (by
      generalize o.map nt = A at *
      generalize d.map nt = B at *
      generalize op.map nt = W at *
      simp [hl, f_rng1N (show n ≤ 1000000 by omega)])
    (fun i E => ∃ s4 s5 : MP.Slot, s4.free = true ∧ s5.free = true ∧ E = [.val (.tuple (o.map nt)), .val (.tuple (d.map nt)), .val (.tuple (op.map nt)), .own (.lst ((those o d op i).map nt)), s4, s5]) ⟨.un, .un, rfl, rfl, rfl⟩
    (fun i hi E ⟨s4, s5, h4, h5, hE⟩ => by
      subst hE
      obtain ⟨L, hS⟩ := stop_exists o d i (wat op i)
      have e3 := sp_boxes_as O D P (by omega) hi hS
      obtain ⟨f0, f1⟩ := fnd_of hS
      have happ := app_n nt (as := those o d op i) (a := i) (by have := those_len o d op i; omega)
      have hs := those_succ o d op i
      have hg := (wfacts O D hi).hg
      refine ⟨[.val (.tuple (o.map nt)), .val (.tuple (d.map nt)), .val (.tuple (op.map nt)), .own (.lst ((those o d op i).map nt)), .val (.int (i : Int)), s5], [.val (.tuple (o.map nt)), .val (.tuple (d.map nt)), .val (.tuple (op.map nt)), .own (.lst ((those o d op (i + 1)).map nt)), .val (.int (i : Int)), .own (.lst (sD o d i L))], by simp [h4], .inl ?_, _, _, rfl, rfl, rfl⟩
      generalize o.map nt = A at *
      generalize d.map nt = B at *
      generalize op.map nt = W at *
      cases L with
      | zero =>
        rw [f0 rfl, if_neg (by decide)] at hs
        rw [hs]
        generalize (those o d op i).map nt = C at *
        simp [bd_finders_as_1, e3, h5, sD_len]
      | succ j =>
        have hj : (0 : Int) < (j : Int) + 1 := by omega
        rw [f1 j rfl] at hs
        by_cases hc : gat o (sq o d i j) = i
        · rw [decide_eq_true hc, if_pos rfl] at hs
          rw [hs]
          rw [nt] at happ
          generalize (those o d op i).map nt = C at *
          generalize (those o d op i ++ [i]).map nt = C' at *
          simp [bd_finders_as_1, e3, h5, sD_len, sD_last, hg, hc, hj, happ]
        · have hc' : ¬ ((gat o (sq o d i j) : Nat) : Int) = (i : Int) := by omega
          rw [decide_eq_false hc, if_neg (by decide)] at hs
          rw [hs]
          generalize (those o d op i).map nt = C at *
          simp [bd_finders_as_1, e3, h5, sD_len, sD_last, hg, hc, hc', hj])
  have e' : lp_finders_as_1 [.val (.tuple (o.map nt)), .val (.tuple (d.map nt)), .val (.tuple (op.map nt)), .own (.lst []), .un, .un] = _ := e
  generalize (those o d op n).map nt = C at *
  generalize o.map nt = A at *
  generalize d.map nt = B at *
  generalize op.map nt = W at *
  simp [fn_finders_as, runDef, m_finders_as, lstF, e1, hl, e2, e']

/-! ### orders turned back, and one behind another -/
theorem gat_ext {a b : List Nat} {n : Nat} (ha : a.length = n) (hb : b.length = n) (h : ∀ i, i < n → gat a i = gat b i) : a = b :=
  List.ext_getElem (by rw [ha, hb]) fun i h1 h2 => by
    have := h i (by omega)
    rw [gat_eq h1, gat_eq h2] at this
    exact this
def compO (a b : List Nat) : List Nat := a.map (gat b)
theorem compO_len (a b : List Nat) : (compO a b).length = a.length := by simp [compO]
theorem compO_at {a b : List Nat} {i : Nat} (h : i < a.length) : gat (compO a b) i = gat b (gat a i) := by
  rw [gat_eq (by rw [compO_len]; exact h), gat_eq h]; simp [compO]
theorem compO_ord {a b : List Nat} {n : Nat} (A : IsOrd a n) (B : IsOrd b n) : IsOrd (compO a b) n :=
  ord_of_inj (by rw [compO_len, A.len]) (fun i hi => by rw [compO_at (by rw [A.len]; exact hi)]; exact B.lt (A.lt hi)) fun i j hi hj e => by
    rw [compO_at (by rw [A.len]; exact hi), compO_at (by rw [A.len]; exact hj)] at e
    exact A.inj hi hj (B.inj (A.lt hi) (A.lt hj) e)
theorem compO_assoc {a b c : List Nat} {n : Nat} (A : IsOrd a n) (B : IsOrd b n) : compO (compO a b) c = compO a (compO b c) :=
  gat_ext (n := n) (by rw [compO_len, compO_len, A.len]) (by rw [compO_len, A.len]) fun i hi => by
    rw [compO_at (by rw [compO_len, A.len]; exact hi), compO_at (by rw [A.len]; exact hi), compO_at (by rw [A.len]; exact hi), compO_at (by rw [B.len]; exact A.lt hi)]
/-- b has the box of each name of o -/
structure IsBack (o b : List Nat) (n : Nat) : Prop where
  ord : IsOrd b n
  at' : ∀ i, i < n → gat b (gat o i) = i
theorem ord_has {o : List Nat} {n x : Nat} (O : IsOrd o n) (h : x < n) : ∃ i, i < n ∧ gat o i = x := by
  obtain ⟨i, hi, e⟩ := List.getElem_of_mem (O.mem.mpr h)
  exact ⟨i, by rw [← O.len]; exact hi, by rw [gat_eq hi]; exact e⟩
theorem IsBack.other {o b : List Nat} {n x : Nat} (B : IsBack o b n) (O : IsOrd o n) (h : x < n) : gat o (gat b x) = x := by
  obtain ⟨i, hi, rfl⟩ := ord_has O h
  rw [B.at' i hi]
theorem IsBack.uniq {o b c : List Nat} {n : Nat} (O : IsOrd o n) (B : IsBack o b n) (C : IsBack o c n) : b = c := gat_ext B.ord.len C.ord.len fun x hx => by
  obtain ⟨i, hi, rfl⟩ := ord_has O hx
  rw [B.at' i hi, C.at' i hi]
theorem IsBack.symm {o b : List Nat} {n : Nat} (O : IsOrd o n) (B : IsBack o b n) : IsBack b o n := ⟨O, fun x hx => B.other O hx⟩
theorem IsBack.comp {a b x y : List Nat} {n : Nat} (A : IsOrd a n) (B : IsOrd b n) (X : IsBack a x n) (Y : IsBack b y n) : IsBack (compO a b) (compO y x) n := ⟨compO_ord Y.ord X.ord, fun i hi => by
  rw [compO_at (a := a) (b := b) (by rw [A.len]; exact hi), compO_at (by rw [Y.ord.len]; exact B.lt (A.lt hi)), Y.at' _ (A.lt hi), X.at' i hi]⟩
theorem sp_turned_back {o : List Nat} {n : Nat} (O : IsOrd o n) (hn : n ≤ 1000) : ∃ b, IsBack o b n ∧ fn_turned_back [.tuple (o.map nt)] = .ok (.val (.tuple (b.map nt))) := by
  have hol := O.len
  have hl : (o.map nt).length = n := by rw [List.length_map, hol]
  have hrep : ∀ E : SEnv, E[0]? = some (.val (.tuple (o.map nt))) → mMul (mLst (mA1 (mD (.int 0)) mA0)) (mN lenF (mA1 (mVar 0) mA0)) E = .ok (.own (.lst ((List.replicate n 0).map nt))) E := fun E e1 => by
    rw [List.map_replicate]
    refine mMul_rep (E1 := E) (r2 := .val (.int (n : Int))) (by simp [lstF, nt]) ?_ rfl (by omega)
    generalize o.map nt = A at *
    simp [e1, hl]
  obtain ⟨E', e, b, s2, s3, h2, h3, hb, hbi, rfl⟩ := for_none (g := gTupF 2 (gs1 (mStore 2) (gs1 (mStore 3) gs0))) (b := bd_turned_back_1) (mi := mEnumT (mA1 (mVar 0) mA0)) (its := enumD 0 (o.map nt))
    (E := [.val (.tuple (o.map nt)), .own (.lst ((List.replicate n 0).map nt)), .un, .un]) (E1 := [.val (.tuple (o.map nt)), .own (.lst ((List.replicate n 0).map nt)), .un, .un])
    (by
      generalize o.map nt = A
      generalize (List.replicate n 0).map nt = B
      simp)
    (fun i E => ∃ (b : List Nat) (s2 s3 : MP.Slot), s2.free = true ∧ s3.free = true ∧ b.length = n ∧ (∀ j, j < i → j < n → gat b (gat o j) = j) ∧ E = [.val (.tuple (o.map nt)), .own (.lst (b.map nt)), s2, s3]) ⟨List.replicate n 0, .un, .un, rfl, rfl, by simp, fun j h => absurd h (Nat.not_lt_zero _), rfl⟩
    (fun i hi E ⟨b, s2, s3, h2, h3, hb, hbi, hE⟩ => by
      subst hE
      rw [enum_at' hi]
      have hin : i < n := by rw [enumD_len, hl] at hi; exact hi
      have hoi : (o.map nt)[i]'(by rw [hl]; exact hin) = .int ((gat o i : Nat) : Int) := by rw [List.getElem_map, gat_eq (by omega)]; rfl
      rw [hoi]
      clear hoi hi
      have hlt := O.lt hin
      have hix : ixN n ((gat o i : Nat) : Int) = some (gat o i) := ixN_n hlt
      have hbl : (b.map nt).length = n := by rw [List.length_map, hb]
      refine ⟨[.val (.tuple (o.map nt)), .own (.lst (b.map nt)), .val (.int (i : Int)), .val (.int ((gat o i : Nat) : Int))], [.val (.tuple (o.map nt)), .own (.lst ((b.set (gat o i) i).map nt)), .val (.int (i : Int)), .val (.int ((gat o i : Nat) : Int))], ?_, .inl ?_, _, _, _, rfl, rfl, by rw [List.length_set, hb], fun j hj hjn => ?_, rfl⟩
      · generalize o.map nt = A at *
        generalize b.map nt = B at *
        simp [gs1, gs0, h2, h3]
      · rw [show (b.set (gat o i) i).map nt = (b.map nt).set (gat o i) (.int (i : Int)) by rw [List.map_set]; rfl]
        generalize b.map nt = B at *
        generalize o.map nt = A at *
        generalize gat o i = x at *
        simp [bd_turned_back_1, hbl, hix]
      · rw [gat_set (by omega)]
        by_cases q : gat o j = gat o i
        · rw [if_pos q]; exact (O.inj hjn hin q).symm
        · rw [if_neg q]
          have : j ≠ i := fun z => q (by rw [z])
          exact hbi j (by omega) hjn)
  have e' : lp_turned_back_1 [.val (.tuple (o.map nt)), .own (.lst ((List.replicate n 0).map nt)), .un, .un] = _ := e
  rw [enumD_len, hl] at hbi
  have hB : ∀ i, i < n → gat b (gat o i) = i := fun i hi => hbi i hi hi
  refine ⟨b, ⟨ord_of_inj hb (fun x hx => ?_) fun x y hx hy e => ?_, hB⟩, ?_⟩
  · obtain ⟨i, hi, rfl⟩ := ord_has O hx
    rw [hB i hi]; exact hi
  · obtain ⟨i, hi, rfl⟩ := ord_has O hx
    obtain ⟨j, hj, rfl⟩ := ord_has O hy
    rw [hB i hi, hB j hj] at e
    rw [e]
  · have hp : pureAll (b.map nt) = true := p_nats _
    generalize (List.replicate n 0).map nt = R at *
    generalize b.map nt = B at *
    generalize o.map nt = A at *
    simp [fn_turned_back, runDef, m_turned_back, hrep, e', hp, -e_mMul]

theorem sp_cell_abs (ns : List Int) : ∃ c : Int, fn__law_cell [.list (ns.map PyData.int), .int 0] = .ok (.val (.int c)) := by
  by_cases h : 0 < ns.length
  · have e := atI_get' (as := ns) (j := 0) h
    rw [show ((0 : Nat) : Int) = 0 from rfl] at e
    exact ⟨_, by simp [fn__law_cell, runDef, m__law_cell, h, atI_map, e]; rfl⟩
  · exact ⟨0, by simp [fn__law_cell, runDef, m__law_cell, h]⟩
theorem sp_size (ns : List Int) : ∃ m : Nat, 1 ≤ m ∧ m ≤ 60 ∧ fn__law_size [.list (ns.map PyData.int)] = .ok (.val (.int (m : Int))) := by
  obtain ⟨c, e⟩ := sp_cell_abs ns
  have l4 : Nat.log2 4 < 9000 := by decide
  by_cases h : c % 4 = 1
  · refine ⟨(1 + c / 4 % 60).toNat, by omega, by omega, ?_⟩
    rw [Int.toNat_of_nonneg (by omega)]
    simp [fn__law_size, runDef, m__law_size, e, h, l4]
  · refine ⟨(1 + c / 4 % 12).toNat, by omega, by omega, ?_⟩
    rw [Int.toNat_of_nonneg (by omega)]
    simp [fn__law_size, runDef, m__law_size, e, h, l4]

theorem idx_back {o b : List Nat} {n k : Nat} (O : IsOrd o n) (B : IsBack o b n) (hk : k < n) : o.idxOf k = gat b k := by
  have hm : k ∈ o := O.mem.mpr hk
  have hl : o.idxOf k < o.length := List.idxOf_lt_length_iff.mpr hm
  have h1 : gat o (o.idxOf k) = k := by rw [gat_eq hl]; exact List.getElem_idxOf hl
  have h2 := B.other O hk
  exact O.inj (by rw [← O.len]; exact hl) (B.ord.lt hk) (h1.trans h2.symm)
theorem back_map {b : List Nat} {n : Nat} (h : b.length = n) : (List.range n).map (gat b) = b := List.ext_getElem (by simp [h]) fun i h1 h2 => by
  rw [List.getElem_map, List.getElem_range, gat_eq h2]
theorem stop_back {o b op : List Nat} {n p : Nat} (O : IsOrd o n) (B : IsBack o b n) (hp : p < n) : ∃ L, Stop o b (wat op p) p L ∧ L = min 1 (wat op p) := by
  have h0 : gat o (sq o b p 0) = p := B.other O hp
  cases hw : wat op p with
  | zero => exact ⟨0, ⟨Nat.le_refl _, fun i h => by omega, .inl rfl⟩, by omega⟩
  | succ w => exact ⟨1, ⟨by omega, fun i h => by omega, .inr ⟨0, rfl, h0⟩⟩, by omega⟩
theorem those_back {o b op : List Nat} {n : Nat} (O : IsOrd o n) (B : IsBack o b n) : those o b op n = (List.range n).filter fun p => decide (0 < wat op p) := by
  unfold those
  refine List.filter_congr fun p hp => ?_
  have hpn := List.mem_range.mp hp
  obtain ⟨L, hS, hL⟩ := stop_back (op := op) O B hpn
  obtain ⟨f0, f1⟩ := fnd_of hS
  have h0 : gat o (sq o b p 0) = p := B.other O hpn
  by_cases hw : 0 < wat op p
  · rw [f1 0 (by omega), decide_eq_true h0, decide_eq_true hw]
  · rw [f0 (by omega), decide_eq_false hw]
theorem sp_plain {o : List Nat} {n : Nat} (O : IsOrd o n) (hn : n ≤ 1000) : ∃ b, IsBack o b n ∧ fn_plain_dealing [.tuple (o.map nt)] = .ok (.val (.tuple (b.map nt))) := by
  obtain ⟨b, B, e⟩ := sp_turned_back O hn
  refine ⟨b, B, ?_⟩
  have hp : pureAll (b.map nt) = true := p_nats _
  generalize o.map nt = A at *
  generalize b.map nt = C at *
  simp [fn_plain_dealing, runDef, m_plain_dealing, e, hp]
theorem bd40 (S : D) (m : Nat) (hm1 : 1 ≤ m) (hm : m ≤ 60) (c : Int) (s3 s4 s5 s6 s7 : MP.Slot) (h3 : s3.free = true) (h4 : s4.free = true) (h5 : s5.free = true) (h6 : s6 = .un ∨ ∃ d, s6 = .val d) (h7 : s7.free = true) : ∃ (A : Int) (t3 t4 t5 t7 : MP.Slot) (q : Int), t3.free = true ∧ t4.free = true ∧ t5.free = true ∧ t7.free = true ∧
    bd_law_1 [.val S, .val (.int (m : Int)), .val (.int c), s3, s4, s5, s6, s7, .un] = .ok .nx [.val S, .val (.int (m : Int)), .val (.int A), t3, t4, t5, .val (.int q), t7, .un] := by
  have hab := f_abs c
  have hA0 : (0 : Int) ≤ (if c < 0 then -c else c) := by split <;> omega
  generalize (if c < 0 then -c else c) = A at *
  obtain ⟨o, O, eo⟩ := sp_order A m (by omega)
  obtain ⟨op, P, eop⟩ := sp_openings (A / 5) m (by omega)
  obtain ⟨b, B, eb⟩ := sp_plain O (by omega)
  have l5 : Nat.log2 5 < 9000 := by decide
  have hm0 : (0 : Int) < (m : Int) := by omega
  obtain ⟨p, hp⟩ := Int.eq_ofNat_of_zero_le (Int.emod_nonneg A (show (m : Int) ≠ 0 by omega))
  have hpm : p < m := by
    have := Int.emod_lt_of_pos A hm0
    omega
  have hbl : b.length = m := B.ord.len
  -- the places of all names
  have hlc1 : ∀ E : SEnv, E = [.val S, .val (.int (m : Int)), .val (.int A), .val (.tuple (o.map nt)), .val (.tuple (op.map nt)), .val (.tuple (b.map nt)), s6, s7, .un] → lc_law_1 E = .ok (.own (.lst (b.map nt))) E := fun E hE => by
    have hh : isHid E 6 = true := by
      rw [hE]
      rcases h6 with rfl | ⟨d, rfl⟩ <;> rfl
    have := lc_map (j := 6) (E := E) (mi := mRng rng1F (mA1 (mVar 1) mA0)) (me := el_law_1) (f := nt) (as := List.range m) (fun k => nt (gat b k)) (by
      rw [hE]
      generalize o.map nt = X
      generalize op.map nt = W
      generalize b.map nt = Y
      simp [f_rng1N (show m ≤ 1000000 by omega)]) hh (by simp; omega) fun k hk => by
        have hkm := List.mem_range.mp hk
        have hti := f_tindex (O.mem.mpr hkm)
        rw [idx_back O B hkm] at hti
        refine ⟨.val (.int ((gat b k : Nat) : Int)), ?_, rfl⟩
        rw [hE]
        generalize o.map nt = X at *
        generalize op.map nt = W
        generalize b.map nt = Y
        simp [el_law_1, nt, hti]
    have e : (List.range m).map (fun k => nt (gat b k)) = b.map nt := by
      conv => rhs; rw [← back_map hbl]
      rw [List.map_map]; rfl
    rw [e] at this
    exact this
  -- those who have an opening
  have hlc2 : ∀ E : SEnv, E = [.val S, .val (.int (m : Int)), .val (.int A), .val (.tuple (o.map nt)), .val (.tuple (op.map nt)), .val (.tuple (b.map nt)), s6, s7, .un] → lc_law_2 E = .ok (.own (.lst (((List.range m).filter fun p => decide (0 < wat op p)).map nt))) E := fun E hE => by
    refine lc_filt (j := 8) (E := E) (mi := mRng rng1F (mA1 (mVar 1) mA0)) (me := el_law_2) (f := nt) (as := List.range m) nt (fun p => decide (0 < wat op p)) (by
      rw [hE]
      generalize o.map nt = X
      generalize op.map nt = W
      generalize b.map nt = Y
      simp [f_rng1N (show m ≤ 1000000 by omega)]) (by rw [hE]; rfl) (by simp; omega) fun k hk => ?_
    have hkm := List.mem_range.mp hk
    have hatk := P.at hkm
    have hgt : gtF (.int ((wat op k : Nat) : Int)) (.int 0) = some (.val (.bool (decide (0 < wat op k)))) := by
      rw [f_gtI]; congr 3; exact decide_eq_decide.mpr (by omega)
    refine ⟨.bor 8, ?_, fun _ => ⟨?_, ?_⟩⟩
    · rw [hE]
      generalize o.map nt = X
      generalize op.map nt = W at *
      generalize b.map nt = Y
      simp [nt, hatk, hgt, -f_gtI]
    · rw [hE]
      generalize o.map nt = X
      generalize op.map nt = W at *
      generalize b.map nt = Y
      simp [el_law_2, nt]
    · rw [hE]; rfl
  have hE1 := hlc1 _ rfl
  have hE2 := hlc2 _ rfl
  rw [← those_back O B] at hE2
  have ef := sp_finders_as O B.ord P hm1 hm
  obtain ⟨L, hS, hL⟩ := stop_back (op := op) O B hpm
  have eo2 := sp_opened_as O B.ord P hm1 hm hpm hS
  have es1 := same_nt 2 b (by omega)
  have es2 := same_nt 2 (those o b op m) (by have := those_len o b op m; omega)
  have hpw := P.at hpm
  have hti := f_tindex (O.mem.mpr hpm)
  rw [idx_back O B hpm] at hti
  have hcut : slF (.list [.int ((gat b p : Nat) : Int)]) none (some ((wat op p : Nat) : Int)) = some (.own (.lst (sD o b p L))) := by
    rw [f_slL]
    have := cut_to [PyData.int ((gat b p : Nat) : Int)] (wat op p)
    rw [this]
    congr 3
    unfold sD sqs
    rw [hL]
    cases hw : wat op p with
    | zero => rfl
    | succ w =>
      have : min 1 (w + 1) = 1 := by omega
      rw [this, List.take_succ_cons, List.take_nil]
      rfl
  have es3 : fs__law_same 4 [.list (sD o b p L), .list (sD o b p L)] = .ok (.val (.bool true)) := same_nl 2 _ (by rw [sqs_len]; omega)
  have hpu : pureAll (sD o b p L) = true := p_nats _
  have hpf : pureAll ((those o b op m).map nt) = true := p_nats _
  have hpb : pureAll (b.map nt) = true := p_nats _
  have hpo : pureAll (o.map nt) = true := p_nats _
  refine ⟨A, .val (.tuple (o.map nt)), .val (.tuple (op.map nt)), .val (.tuple (b.map nt)), .own (.lst (sD o b p L)), (p : Int), rfl, rfl, rfl, rfl, ?_⟩
  have hs6 : s6.free = true := by rcases h6 with rfl | ⟨d, rfl⟩ <;> rfl
  clear hlc1 hlc2 h6
  generalize sD o b p L = Z at *
  generalize (those o b op m).map nt = V at *
  generalize o.map nt = X at *
  generalize op.map nt = W at *
  generalize b.map nt = Y at *
  generalize ((gat b p : Nat) : Int) = g at *
  generalize ((wat op p : Nat) : Int) = w at *
  generalize (m : Int) = mm at *
  simp [bd_law_1, hab, l5, eo, eop, eb, h3, h4, h5, hs6, h7, hE1, hE2, ef, eo2, es1, es2, es3, hm0, hp, hpw, hti, hcut, lstF, hpu, hpf, hpb, hpo, -f_slL]
theorem law_true (ns : List Int) (h : ns.length ≤ 63) : fn_law [.list (ns.map PyData.int)] = .ok (.val (.bool true)) := by
  obtain ⟨m, hm1, hm2, e1⟩ := sp_size ns
  obtain ⟨E', e, s2, s3, s4, s5, s6, s7, h2, h3, h4, h5, h6, h7, rfl⟩ := for_map (g := mStore 2) (b := bd_law_1) (mi := mIt (m2 addF (mLst (mA1 (mD (.int 0)) mA0)) (mN listF (mA1 (mSl (mVar 0) (mPart (mD (.int 1))) mNoP) mA0))))
    (E := [.val (.list (ns.map PyData.int)), .val (.int (m : Int)), .un, .un, .un, .un, .un, .un, .un]) (E1 := [.val (.list (ns.map PyData.int)), .val (.int (m : Int)), .un, .un, .un, .un, .un, .un, .un]) (f := PyData.int) (as := 0 :: ns.drop 1)
    (by
      have hc : cutA (ns.map PyData.int) (some 1) none = (ns.drop 1).map PyData.int := by
        have := cut_from (ns.map PyData.int) 1
        rw [show ((1 : Nat) : Int) = 1 from rfl] at this
        rw [this, List.map_drop]
      have hb : 1 + (ns.length - 1) ≤ big := by unfold big; omega
      simp [lstF, hc, hb, -List.map_drop])
    (fun _ E => ∃ (s2 s3 s4 s5 s6 s7 : MP.Slot), s2.free = true ∧ s3.free = true ∧ s4.free = true ∧ s5.free = true ∧ (s6 = .un ∨ ∃ d, s6 = .val d) ∧ s7.free = true ∧ E = [.val (.list (ns.map PyData.int)), .val (.int (m : Int)), s2, s3, s4, s5, s6, s7, .un]) ⟨.un, .un, .un, .un, .un, .un, rfl, rfl, rfl, rfl, .inl rfl, rfl, rfl⟩
    (fun i hi E ⟨s2, s3, s4, s5, s6, s7, h2, h3, h4, h5, h6, h7, hE⟩ => by
      subst hE
      obtain ⟨A, t3, t4, t5, t7, q, g3, g4, g5, g7, e⟩ := bd40 (.list (ns.map PyData.int)) m hm1 hm2 (0 :: ns.drop 1)[i] s3 s4 s5 s6 s7 h3 h4 h5 h6 h7
      exact ⟨[.val (.list (ns.map PyData.int)), .val (.int (m : Int)), .val (.int (0 :: ns.drop 1)[i]), s3, s4, s5, s6, s7, .un], _, by simp [h2], .inl e, _, t3, t4, t5, _, t7, rfl, g3, g4, g5, .inr ⟨_, rfl⟩, g7, rfl⟩)
  have e' : lp_law_1 [.val (.list (ns.map PyData.int)), .val (.int (m : Int)), .un, .un, .un, .un, .un, .un, .un] = _ := e
  simp [fn_law, runDef, m_law, e1, e']

end L_k40
open PySem PySem.W PyProof.Rows
set_option maxHeartbeats 0 in
theorem PySem.Challenge.cw_ownboxes_k40_the_plain_dealing_holds : PySem.Challenge.rw_ownboxes_k40_the_plain_dealing.Holds := by
  w_on; o_law; k_head; (case hw => w_witness2)
  k_fill
  refine L2.walk_of (l := PySem.Challenge.rw_ownboxes_k40_the_plain_dealing) (n := 63) (k := 6) (x := "script") (CX := fun w => L2.CX PySem.Challenge.rw_ownboxes_k40_the_plain_dealing.prog w) (sp := fun w => MP.spM _ MP.cl0 L_k40.fn_law) rfl (by decide) rfl ⟨rfl, by decide, by decide⟩ (fun w h Y => PySem.W.kIn_of Y) ?F (fun w H a ns hl ho hS => MP.end_sp MP.tabs_nil hS (L_k40.law_true ns hl)) (fun w H s e s' h => MP.end_cx h)
  case F =>
    intro w mg fa h KX G hmg
    refine' L_k40.all_mk KX G hmg ?a0 ?l0 ?c0 ?k0 ?a1 ?l1 ?c1 ?k1 ?a2 ?l2 ?c2 ?k2 ?a3 ?l3 ?c3 ?k3 ?a4 ?l4 ?c4 ?k4 ?a5 ?l5 ?c5 ?k5 ?a6 ?l6 ?c6 ?k6 ?a7 ?l7 ?c7 ?k7 ?a8 ?l8 ?c8 ?k8 ?a9 ?l9 ?c9 ?k9 ?a10 ?l10 ?c10 ?k10 ?a11 ?l11 ?c11 ?k11 ?a12 ?l12 ?c12 ?k12 ?a13 ?l13 ?c13 ?k13 ?z0 ?z1 ?z2 ?z3 ?z4 ?z5 ?z6 ?z7 ?z8 ?z9 ?z10 ?z11 ?z12
    (case a0 => k_is); (case l0 => k_is); (case c0 => k_is); (case k0 => k_is); (case a1 => k_is); (case l1 => k_is); (case c1 => k_is); (case k1 => k_is); (case a2 => k_is); (case l2 => k_is); (case c2 => k_is); (case k2 => k_is); (case a3 => k_is); (case l3 => k_is); (case c3 => k_is); (case k3 => k_is); (case a4 => k_is); (case l4 => k_is); (case c4 => k_is); (case k4 => k_is); (case a5 => k_is); (case l5 => k_is); (case c5 => k_is); (case k5 => k_is); (case a6 => k_is); (case l6 => k_is); (case c6 => k_is); (case k6 => k_is); (case a7 => k_is); (case l7 => k_is); (case c7 => k_is); (case k7 => k_is); (case a8 => k_is); (case l8 => k_is); (case c8 => k_is); (case k8 => k_is); (case a9 => k_is); (case l9 => k_is); (case c9 => k_is); (case k9 => k_is); (case a10 => k_is); (case l10 => k_is); (case c10 => k_is); (case k10 => k_is); (case a11 => k_is); (case l11 => k_is); (case c11 => k_is); (case k11 => k_is); (case a12 => k_is); (case l12 => k_is); (case c12 => k_is); (case k12 => k_is); (case a13 => k_is); (case l13 => k_is); (case c13 => k_is); (case k13 => k_is); (case z0 => k_is); (case z1 => k_is); (case z2 => k_is); (case z3 => k_is); (case z4 => k_is); (case z5 => k_is); (case z6 => k_is); (case z7 => k_is); (case z8 => k_is); (case z9 => k_is); (case z10 => k_is); (case z11 => k_is); (case z12 => k_is)
