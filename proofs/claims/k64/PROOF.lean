import PyProof.Rows.All
import HandS.ForMost
import HandS.SortInts
import HandS.Wide
import HandS.Defaults
import HandS.DictComp
import HandS.IsInst
import HandS.Flow
import HandS.TupAny
import KE.DataEq
import KE.DataCmp
import KE.DataFind
import KE.DataMinMax
import KE.DataAny
import HandS.More
import HandS.Strs
import HandS.Zip
import HandS.Style
import PyProof.ReprRoads
import HandS.EndBits
import HandS.RaiseMore
import HandS.SetFor
import HandS.Small
import HandS.Codes
import HandS.Comp
import HandS.Conv
import HandS.Deep
import HandS.List
import HandS.Iter
import PyProof.Draws
import PyProof.EnumMake
import HandS.Zip0
import HandS.NoneIn
import HandS.Head0
import HandS.Head1
import HandS.Head2
import HandS.HeadEnd
import HandS.HeadHook1
import HandS.HeadHook2
import PySem.Challenge.RW_hoardsread_k64_whole_years_between_finds
set_option Elab.async false
set_option linter.all false
set_option maxRecDepth 100000
set_option maxHeartbeats 4000000
/-! Mini A: by-value data over the layer HandS: the relation of a value in the heap to plain data, the relation of a def's slots to a plain environment. -/
namespace Mini
open PySem PySem.Spec PyProof.Rows L2

/-- no list of ours is longer -/
abbrev LB : Nat := 1000000
theorem LB_line {n : Nat} (h : n ≤ LB) : n ≤ sizeLine := Nat.le_trans h (by rw [sizeLine_eq]; decide)
theorem LB_lt {n : Nat} (h : n < LB) : n < sizeLine := Nat.lt_of_lt_of_le h (by rw [sizeLine_eq]; decide)

abbrev AS := Addr → Prop
def keyD : Key → PyData
  | .inl i => .int i
  | .inr x => .str x

/-- how a tuple's object is known: tracked (β = false), or to the object, without a dict of its own (β = true: its methods can be called) -/
def TupAt (β : Bool) (H : Hp) (a : Addr) (xs : List V) : Prop := match β with
  | false => H a = some (.tup xs)
  | true => ∃ o : Obj, H a = some (.frz o (.tup xs)) ∧ o.dict = none
/-! ### a value's data -/
mutual
inductive Dv (β : Bool) (Ω : AS) (H : Hp) : V → PyData → Prop
  | non : Dv β Ω H .non .none
  | bl (b : Bool) : Dv β Ω H (.bl b) (.bool b)
  | int (i : Int) : Dv β Ω H (.int i) (.int i)
  | str (x : Str) : Dv β Ω H (.str x) (.str x)
  | lst {a : Addr} {xs : List V} {ds : List PyData} : H a = some (.lst xs) → ¬ Ω a → xs.length ≤ LB → DvA β Ω H xs ds → Dv β Ω H (.ref a) (.list ds)
  | tup {a : Addr} {xs : List V} {ds : List PyData} : TupAt β H a xs → ¬ Ω a → xs.length ≤ LB → DvA β Ω H xs ds → Dv β Ω H (.ref a) (.tuple ds)
  | dK {a : Addr} {kvs : List (Key × V)} {ds : List PyData} : Rd H a (.dK kvs) → ¬ Ω a → kvs.length ≤ LB → DvA β Ω H (kvs.map (·.2)) ds → Dv β Ω H (.ref a) (.dict ((kvs.map fun p => keyD p.1).zip ds))
  | dT {a : Addr} {kvs : List (List Key × V)} {ds : List PyData} : Rd H a (.dT kvs) → ¬ Ω a → kvs.length ≤ LB → DvA β Ω H (kvs.map (·.2)) ds → Dv β Ω H (.ref a) (.dict ((kvs.map fun p => PyData.tuple (p.1.map keyD)).zip ds))
inductive DvA (β : Bool) (Ω : AS) (H : Hp) : List V → List PyData → Prop
  | nil : DvA β Ω H [] []
  | cons {v : V} {vs : List V} {d : PyData} {ds : List PyData} : Dv β Ω H v d → DvA β Ω H vs ds → DvA β Ω H (v :: vs) (d :: ds)
end

/-- nothing but Ω may have changed -/
def Evo (Ω : AS) (H H' : Hp) : Prop := ∀ a o, H a = some o → ¬ Ω a → H' a = some o
/-- the heap has grown, nothing has changed -/
def Ext (H H' : Hp) : Prop := ∀ a o, H a = some o → H' a = some o
theorem Ext.refl (H : Hp) : Ext H H := fun _ _ h => h
theorem Ext.trans {H H1 H2 : Hp} (a : Ext H H1) (b : Ext H1 H2) : Ext H H2 := fun x o h => b x o (a x o h)
theorem Ext.evo {H H' : Hp} (e : Ext H H') (Ω : AS) : Evo Ω H H' := fun a o h _ => e a o h
theorem Ext.new {H : Hp} {p : Addr} {o : HO} (h : H p = none) : Ext H (upd H p o) := fun a u e => by
  rw [upd_ne (ne_of_none e h)]
  exact e
theorem Evo.refl (Ω : AS) (H : Hp) : Evo Ω H H := fun _ _ h _ => h
theorem Evo.trans {Ω : AS} {H H1 H2 : Hp} (a : Evo Ω H H1) (b : Evo Ω H1 H2) : Evo Ω H H2 := fun x o h n => b x o (a x o h n) n
theorem Evo.mono {β : Bool} {Ω Ω' : AS} {H H' : Hp} (e : Evo Ω H H') (h : ∀ a, Ω a → Ω' a) : Evo Ω' H H' := fun a o q n => e a o q fun z => n (h a z)
theorem TupAt.rd {β : Bool} {H : Hp} {a : Addr} {xs : List V} (h : TupAt β H a xs) : Rd H a (.tup xs) := by
  cases β with
  | false => exact .inl h
  | true => obtain ⟨o, h, _⟩ := h; exact .inr ⟨o, h⟩
theorem TupAt.evo {β : Bool} {Ω : AS} {H H' : Hp} {a : Addr} {xs : List V} (e : Evo Ω H H') (n : ¬ Ω a) (h : TupAt β H a xs) : TupAt β H' a xs := by
  cases β with
  | false => exact e a _ h n
  | true => obtain ⟨o, h, d⟩ := h; exact ⟨o, e a _ h n, d⟩
theorem TupAt.some {β : Bool} {H : Hp} {a : Addr} {xs : List V} (h : TupAt β H a xs) : H a ≠ none := by
  cases β with
  | false => rw [show H a = _ from h]; exact fun z => nomatch z
  | true => obtain ⟨o, h, _⟩ := h; rw [h]; exact fun z => nomatch z
theorem TupAt.seq {β : Bool} {K : PySem.W.Frag} {H : Hp} {a : Addr} {xs : List V} (h : TupAt β H a xs) : SqT K H a xs := .inl h.rd
theorem Rd.evo {Ω : AS} {H H' : Hp} {a : Addr} {u : HO} (e : Evo Ω H H') (n : ¬ Ω a) (h : Rd H a u) : Rd H' a u := by
  rcases h with h | ⟨o, h⟩
  · exact .inl (e a _ h n)
  · exact .inr ⟨o, e a _ h n⟩
/-- Ω shrinks by what was there, the heap goes on -/
structure Grow (Ω : AS) (H : Hp) (Ω' : AS) (H' : Hp) : Prop where
  own : ∀ a, Ω' a → Ω a ∨ H a = none
  evo : Evo Ω H H'
theorem Grow.refl (Ω : AS) (H : Hp) : Grow Ω H Ω H := ⟨fun _ h => .inl h, Evo.refl Ω H⟩
theorem Grow.trans {Ω Ω1 Ω2 : AS} {H H1 H2 : Hp} (a : Grow Ω H Ω1 H1) (b : Grow Ω1 H1 Ω2 H2) : Grow Ω H Ω2 H2 := by
  have q : ∀ c, Ω1 c → Ω c ∨ H c = none := a.own
  refine ⟨fun c h => ?_, fun c o h n => ?_⟩
  · rcases b.own c h with z | z
    · exact q c z
    · cases e : H c with
      | none => exact .inr rfl
      | some o =>
        by_cases hc : Ω c
        · exact .inl hc
        · rw [a.evo c o e hc] at z
          cases z
  · refine b.evo c o (a.evo c o h n) fun z => ?_
    rcases q c z with z | z
    · exact n z
    · rw [h] at z
      cases z
theorem Ext.grow {Ω : AS} {H H' : Hp} (e : Ext H H') : Grow Ω H Ω H' := ⟨fun _ h => .inl h, e.evo Ω⟩
theorem Evo.grow {Ω : AS} {H H' : Hp} (e : Evo Ω H H') : Grow Ω H Ω H' := ⟨fun _ h => .inl h, e⟩

mutual
theorem Dv.grow {β : Bool} {Ω Ω' : AS} {H H' : Hp} (g : Grow Ω H Ω' H') : ∀ {d : PyData} {v : V}, Dv β Ω H v d → Dv β Ω' H' v d
  | .none, _, .non => .non
  | .bool b, _, .bl _ => .bl b
  | .int i, _, .int _ => .int i
  | .str x, _, .str _ => .str x
  | .list ds, _, .lst h n l r => .lst (g.evo _ _ h n) (fun z => (g.own _ z).elim n fun q => by rw [h] at q; cases q) l (DvA.grow g r)
  | .tuple ds, _, .tup h n l r => .tup (h.evo g.evo n) (fun z => (g.own _ z).elim n fun q => h.some q) l (DvA.grow g r)
  | _, _, .dK h n l r => .dK (Rd.evo g.evo n h) (fun z => (g.own _ z).elim n fun q => by rcases h with h | ⟨o, h⟩ <;> (rw [h] at q; cases q)) l (DvA.grow g r)
  | _, _, .dT h n l r => .dT (Rd.evo g.evo n h) (fun z => (g.own _ z).elim n fun q => by rcases h with h | ⟨o, h⟩ <;> (rw [h] at q; cases q)) l (DvA.grow g r)
theorem DvA.grow {β : Bool} {Ω Ω' : AS} {H H' : Hp} (g : Grow Ω H Ω' H') : ∀ {ds : List PyData} {vs : List V}, DvA β Ω H vs ds → DvA β Ω' H' vs ds
  | _, _, .nil => .nil
  | _, _, .cons h r => .cons (Dv.grow g h) (DvA.grow g r)
end
theorem DvA.length {β : Bool} {Ω : AS} {H : Hp} : ∀ {vs : List V} {ds : List PyData}, DvA β Ω H vs ds → vs.length = ds.length
  | _, _, .nil => rfl
  | _, _, .cons _ r => congrArg (· + 1) (DvA.length r)
theorem DvA.get {β : Bool} {Ω : AS} {H : Hp} : ∀ {vs : List V} {ds : List PyData} {i : Nat} {d : PyData}, DvA β Ω H vs ds → ds[i]? = some d → ∃ v, vs[i]? = some v ∧ Dv β Ω H v d
  | _, _, _, _, .nil, e => by simp at e
  | _, _, 0, _, .cons h _, e => by
    simp only [List.getElem?_cons_zero, Option.some.injEq] at e
    subst e
    exact ⟨_, rfl, h⟩
  | _, _, i + 1, _, .cons _ r, e => by
    obtain ⟨v, h1, h2⟩ := DvA.get (i := i) r (by simpa using e)
    exact ⟨v, by simpa using h1, h2⟩
theorem DvA.get' {β : Bool} {Ω : AS} {H : Hp} : ∀ {vs : List V} {ds : List PyData} {i : Nat} {v : V}, DvA β Ω H vs ds → vs[i]? = some v → ∃ d, ds[i]? = some d ∧ Dv β Ω H v d
  | _, _, _, _, .nil, e => by simp at e
  | _, _, 0, _, .cons h _, e => by
    simp only [List.getElem?_cons_zero, Option.some.injEq] at e
    subst e
    exact ⟨_, rfl, h⟩
  | _, _, i + 1, _, .cons _ r, e => by
    obtain ⟨v, h1, h2⟩ := DvA.get' (i := i) r (by simpa using e)
    exact ⟨v, by simpa using h1, h2⟩
theorem DvA.append {β : Bool} {Ω : AS} {H : Hp} : ∀ {vs ws : List V} {ds es : List PyData}, DvA β Ω H vs ds → DvA β Ω H ws es → DvA β Ω H (vs ++ ws) (ds ++ es)
  | _, _, _, _, .nil, s => s
  | _, _, _, _, .cons h r, s => .cons h (DvA.append r s)
theorem DvA.take {β : Bool} {Ω : AS} {H : Hp} : ∀ {vs : List V} {ds : List PyData} (n : Nat), DvA β Ω H vs ds → DvA β Ω H (vs.take n) (ds.take n)
  | _, _, 0, _ => .nil
  | _, _, _ + 1, .nil => .nil
  | _, _, n + 1, .cons h r => .cons h (DvA.take n r)
theorem DvA.drop {β : Bool} {Ω : AS} {H : Hp} : ∀ {vs : List V} {ds : List PyData} (n : Nat), DvA β Ω H vs ds → DvA β Ω H (vs.drop n) (ds.drop n)
  | _, _, 0, h => h
  | _, _, _ + 1, .nil => .nil
  | _, _, n + 1, .cons _ r => DvA.drop n r
theorem DvA.set {β : Bool} {Ω : AS} {H : Hp} {v : V} {d : PyData} (h : Dv β Ω H v d) : ∀ {vs : List V} {ds : List PyData} (i : Nat), DvA β Ω H vs ds → DvA β Ω H (vs.set i v) (ds.set i d)
  | _, _, _, .nil => .nil
  | _, _, 0, .cons _ r => .cons h r
  | _, _, i + 1, .cons q r => .cons q (DvA.set h i r)
theorem DvA.reverse {β : Bool} {Ω : AS} {H : Hp} : ∀ {vs : List V} {ds : List PyData}, DvA β Ω H vs ds → DvA β Ω H vs.reverse ds.reverse
  | _, _, .nil => .nil
  | _, _, .cons h r => by
    rw [List.reverse_cons, List.reverse_cons]
    exact (DvA.reverse r).append (.cons h .nil)
theorem DvA.rep {β : Bool} {Ω : AS} {H : Hp} {v : V} {d : PyData} (h : Dv β Ω H v d) : ∀ n : Nat, DvA β Ω H (List.replicate n v) (List.replicate n d)
  | 0 => .nil
  | n + 1 => .cons h (DvA.rep h n)
theorem DvA.dropLast {β : Bool} {Ω : AS} {H : Hp} {vs : List V} {ds : List PyData} (h : DvA β Ω H vs ds) : DvA β Ω H vs.dropLast ds.dropLast := by
  rw [List.dropLast_eq_take, List.dropLast_eq_take, h.length]
  exact h.take _
theorem DvA.at {β : Bool} {Ω : AS} {H : Hp} {vs : List V} {ds : List PyData} {i : Int} {d : PyData} (h : DvA β Ω H vs ds) (e : atI ds i = some d) : ∃ v, atI vs i = some v ∧ Dv β Ω H v d := by
  unfold atI at e ⊢
  rw [h.length]
  cases q : ixN ds.length i with
  | none => rw [q] at e; cases e
  | some j =>
    rw [q] at e
    exact h.get e
/-- flat data -/
theorem Dv.int_inv {β : Bool} {Ω : AS} {H : Hp} {v : V} {i : Int} (h : Dv β Ω H v (.int i)) : v = .int i := by cases h; rfl
theorem Dv.bl_inv {β : Bool} {Ω : AS} {H : Hp} {v : V} {b : Bool} (h : Dv β Ω H v (.bool b)) : v = .bl b := by cases h; rfl
theorem Dv.str_inv {β : Bool} {Ω : AS} {H : Hp} {v : V} {x : Str} (h : Dv β Ω H v (.str x)) : v = .str x := by cases h; rfl
theorem Dv.non_inv {β : Bool} {Ω : AS} {H : Hp} {v : V} (h : Dv β Ω H v .none) : v = .non := by cases h; rfl
theorem Dv.tup_inv {β : Bool} {Ω : AS} {H : Hp} {v : V} {ds : List PyData} (h : Dv β Ω H v (.tuple ds)) : ∃ a vs, v = .ref a ∧ TupAt β H a vs ∧ ¬ Ω a ∧ vs.length ≤ LB ∧ DvA β Ω H vs ds := by
  cases h with
  | tup h n l r => exact ⟨_, _, rfl, h, n, l, r⟩
theorem Dv.lst_inv {β : Bool} {Ω : AS} {H : Hp} {v : V} {ds : List PyData} (h : Dv β Ω H v (.list ds)) : ∃ a vs, v = .ref a ∧ H a = some (.lst vs) ∧ ¬ Ω a ∧ vs.length ≤ LB ∧ DvA β Ω H vs ds := by
  cases h with
  | lst h n l r => exact ⟨_, _, rfl, h, n, l, r⟩
theorem DvA.ints {β : Bool} {Ω : AS} {H : Hp} : ∀ {ns : List Int} {vs : List V}, DvA β Ω H vs (ns.map .int) → vs = ns.map V.int
  | [], _, .nil => rfl
  | n :: ns, _, .cons h r => by rw [h.int_inv, DvA.ints r]; rfl
theorem DvA.ofInts {β : Bool} {Ω : AS} {H : Hp} : ∀ ns : List Int, DvA β Ω H (ns.map V.int) (ns.map .int)
  | [] => .nil
  | n :: ns => .cons (.int n) (DvA.ofInts ns)
theorem DvA.bls {β : Bool} {Ω : AS} {H : Hp} : ∀ {ns : List Bool} {vs : List V}, DvA β Ω H vs (ns.map .bool) → vs = ns.map V.bl
  | [], _, .nil => rfl
  | n :: ns, _, .cons h r => by rw [h.bl_inv, DvA.bls r]; rfl

/-! ### the draws' state -/
structure Drw where
  cells : List Int
  at_ : Int
  cur : Int
  left : Int
  seed : Int
  cnt : Int
/-- bounds that the draws keep -/
structure Drw.Ok (w : Drw) : Prop where
  len : w.cells.length ≤ 63
  big : ∀ c ∈ w.cells, 0 ≤ c ∧ c.natAbs < 2 ^ 1048580
  at0 : 0 ≤ w.at_
  at1 : w.at_ ≤ 63
  cur0 : 0 ≤ w.cur
  cur1 : w.cur.natAbs < 2 ^ 1048580
  left0 : 0 ≤ w.left
  left1 : w.left ≤ 60
  seed0 : 0 ≤ w.seed
  seed1 : w.seed < 2147483647
  cnt0 : 0 ≤ w.cnt
  cnt1 : w.cnt < 2 ^ 62

/-! ### a def's slots -/
inductive Sl where
  | no
  | val (d : PyData)
  | own (d : PyData)
  | stt
  | raw (v : V)
abbrev SEnv := List Sl

/-- what is fixed from a def's entry on: the draws' state's address (if the def has one), the heap at the entry, what others may change -/
structure Fx (β : Bool) where
  st : Option Addr
  cl : Addr
  H0 : Hp
  Ψ : AS
abbrev Fx.β {β : Bool} (_ : Fx β) : Bool := β
/-- an own object's content -/
def OwnAt (β : Bool) (Ω : AS) (H : Hp) (a : Addr) : PyData → Prop
  | .list ds => ∃ vs, H a = some (.lst vs) ∧ vs.length ≤ LB ∧ DvA β Ω H vs ds
  | .dict ps => (∃ (kvs : List (Key × V)) (ds : List PyData), H a = some (.dK kvs) ∧ kvs.length ≤ LB ∧ DvA β Ω H (kvs.map (·.2)) ds ∧ ps = (kvs.map fun p => keyD p.1).zip ds) ∨
      (∃ (kvs : List (List Key × V)) (ds : List PyData), H a = some (.dT kvs) ∧ kvs.length ≤ LB ∧ DvA β Ω H (kvs.map (·.2)) ds ∧ ps = (kvs.map fun p => PyData.tuple (p.1.map keyD)).zip ds)
  | _ => False
theorem OwnAt.grow {β : Bool} {Ω Ω' : AS} {H H' : Hp} {a : Addr} {d : PyData} (g : Grow Ω H Ω' H') (e : H' a = H a) (h : OwnAt β Ω H a d) : OwnAt β Ω' H' a d := by
  cases d with
  | list ds =>
    obtain ⟨vs, h1, h2, h3⟩ := h
    exact ⟨vs, e.trans h1, h2, h3.grow g⟩
  | dict ps =>
    rcases h with ⟨kvs, ds, h1, h2, h3, h4⟩ | ⟨kvs, ds, h1, h2, h3, h4⟩
    · exact .inl ⟨kvs, ds, e.trans h1, h2, h3.grow g, h4⟩
    · exact .inr ⟨kvs, ds, e.trans h1, h2, h3.grow g, h4⟩
  | _ => exact False.elim h
def SlOk {β : Bool} (F : Fx β) (Ω : AS) (H : Hp) (σ : L2.St) (i : Nat) : Sl → Prop
  | .no => True
  | .val d => ∃ v, σ[i]? = some (some v) ∧ Dv F.β Ω H v d
  | .own d => ∃ a, σ[i]? = some (some (.ref a)) ∧ Ω a ∧ F.H0 a = none ∧ OwnAt F.β Ω H a d
  | .stt => ∃ s, F.st = some s ∧ σ[i]? = some (some (.ref s))
  | .raw v => σ[i]? = some (some v)
def isOwn : Sl → Bool
  | .own _ => true
  | _ => false
/-- the draws' state stands -/
def WOk (st : Option Addr) (c : Addr) (Ω : AS) (H : Hp) (w : Drw) : Prop := match st with
  | none => True
  | some s => Ω s ∧ Ω c ∧ c ≠ s ∧ H s = some (.lst [.ref c, .int w.at_, .int w.cur, .int w.left, .int w.seed, .int w.cnt]) ∧ H c = some (.lst (w.cells.map V.int)) ∧ w.Ok
structure Rel {β : Bool} (F : Fx β) (H : Hp) (Ω : AS) (σ : L2.St) (S : SEnv) (w : Drw) : Prop where
  ext : ∀ a o, F.H0 a = some o → F.st ≠ some a → H a = some o
  base : ∀ a, F.Ψ a → Ω a
  dom : ∀ a, Ω a → H a ≠ none
  old : ∀ a, F.Ψ a → F.H0 a ≠ none
  len : S.length = σ.length
  slot : ∀ (i : Nat) (sl : Sl), S[i]? = some sl → SlOk F Ω H σ i sl
  uniq : ∀ (i j : Nat) (d e : PyData) (a : Addr), S[i]? = some (Sl.own d) → S[j]? = some (Sl.own e) → σ[i]? = some (some (V.ref a)) → σ[j]? = some (some (V.ref a)) → i = j
  wok : WOk F.st F.cl F.Ψ H w
section
variable {β : Bool} {F : Fx β} {H H' : Hp} {Ω Ω' : AS} {σ : L2.St} {S : SEnv} {w w' : Drw}
/-- the draws' state alone may have changed -/
def Evs (st : Option Addr) (H H' : Hp) : Prop := ∀ a o, H a = some o → st ≠ some a → H' a = some o
theorem Evs.refl (st : Option Addr) (H : Hp) : Evs st H H := fun _ _ h _ => h
theorem Evs.trans {st : Option Addr} {H H1 H2 : Hp} (a : Evs st H H1) (b : Evs st H1 H2) : Evs st H H2 := fun x o h n => b x o (a x o h n) n
theorem Ext.evs {st : Option Addr} (e : Ext H H') : Evs st H H' := fun a o h _ => e a o h
theorem Rel.stΨ (R : Rel F H Ω σ S w) {a : Addr} (h : F.st = some a) : F.Ψ a ∧ Ω a := by
  have k := R.wok
  rw [h] at k
  exact ⟨k.1, R.base a k.1⟩
theorem Rel.evo (R : Rel F H Ω σ S w) (e : Evs F.st H H') : Evo Ω H H' := fun a o h n => e a o h fun z => n (R.stΨ z).2
theorem Rel.grow (R : Rel F H Ω σ S w) (e : Evs F.st H H') : Grow Ω H Ω H' := (R.evo e).grow
theorem WOk.ext {st : Option Addr} {c : Addr} (e : Ext H H') (h : WOk st c Ω H w) : WOk st c Ω H' w := by
  cases st with
  | none => exact h
  | some s =>
    obtain ⟨h0, h1, h2, h3, h4, h5⟩ := h
    exact ⟨h0, h1, h2, e _ _ h3, e _ _ h4, h5⟩
theorem OwnAt.some {a : Addr} {d : PyData} (h : OwnAt β Ω H a d) : ∃ o, H a = some o := by
  cases d with
  | list ds => obtain ⟨vs, h1, _⟩ := h; exact ⟨_, h1⟩
  | dict ps =>
    rcases h with ⟨kvs, ds, h1, _⟩ | ⟨kvs, ds, h1, _⟩
    · exact ⟨_, h1⟩
    · exact ⟨_, h1⟩
  | _ => exact False.elim h
/-- behind an expression: the draws' state may have turned -/
theorem Rel.evs (R : Rel F H Ω σ S w) (e : Evs F.st H H') (k : WOk F.st F.cl F.Ψ H' w') : Rel F H' Ω σ S w' := by
  refine ⟨fun a o h n => e a o (R.ext a o h n) n, R.base, fun a h => ?_, R.old, R.len, fun i sl hi => ?_, R.uniq, k⟩
  · cases q : H a with
    | none => exact absurd q (R.dom a h)
    | some o =>
      by_cases hs : F.st = some a
      · have k' := k
        rw [hs] at k'
        obtain ⟨_, _, _, z, _⟩ := k'
        rw [z]
        exact fun z => nomatch z
      · rw [e a o q hs]
        exact fun z => nomatch z
  · have q := R.slot i sl hi
    cases sl with
    | no => trivial
    | val d =>
      obtain ⟨v, h1, h2⟩ := q
      exact ⟨v, h1, h2.grow (R.grow e)⟩
    | own d =>
      obtain ⟨a, h1, h2, h3, h4⟩ := q
      obtain ⟨o, ho⟩ := h4.some
      have hne : F.st ≠ some a := fun z => R.old a (R.stΨ z).1 h3
      exact ⟨a, h1, h2, h3, h4.grow (R.grow e) ((e a o ho hne).trans ho.symm)⟩
    | stt => exact q
    | raw v => exact q
theorem Rel.ex (R : Rel F H Ω σ S w) (e : Ext H H') : Rel F H' Ω σ S w := R.evs e.evs (R.wok.ext e)
end

/-! ### what a reading of a data value may be: esc: free to be kept; top: a def's own object, for the moment -/
inductive Strg where
  | esc | top
def Dx {β : Bool} (r : Strg) (F : Fx β) (Ω : AS) (H : Hp) (v : V) (d : PyData) : Prop := match r with
  | .esc => Dv F.β Ω H v d
  | .top => Dv F.β Ω H v d ∨ ∃ a, v = .ref a ∧ F.H0 a = none ∧ OwnAt F.β Ω H a d
section
variable {β : Bool} {r : Strg} {F : Fx β} {Ω : AS} {H H' : Hp} {v : V} {d : PyData}
theorem Dx.of (h : Dv F.β Ω H v d) : Dx r F Ω H v d := by
  cases r with
  | esc => exact h
  | top => exact .inl h
def notObj : PyData → Bool
  | .list _ => false
  | .dict _ => false
  | _ => true
theorem Dx.flat (h : Dx r F Ω H v d) (hd : notObj d = true) : Dv F.β Ω H v d := by
  cases r with
  | esc => exact h
  | top =>
    rcases h with h | ⟨a, _, _, h⟩
    · exact h
    · cases d <;> first | exact False.elim h | cases hd
theorem Dx.int_inv {i : Int} (h : Dx r F Ω H v (.int i)) : v = .int i := (h.flat rfl).int_inv
theorem Dx.bl_inv {b : Bool} (h : Dx r F Ω H v (.bool b)) : v = .bl b := (h.flat rfl).bl_inv
theorem Dx.str_inv {x : Str} (h : Dx r F Ω H v (.str x)) : v = .str x := (h.flat rfl).str_inv
theorem Dx.non_inv (h : Dx r F Ω H v .none) : v = .non := (h.flat rfl).non_inv
theorem Dx.tup_inv {ds : List PyData} (h : Dx r F Ω H v (.tuple ds)) : ∃ a vs, v = .ref a ∧ TupAt F.β H a vs ∧ vs.length ≤ LB ∧ DvA F.β Ω H vs ds := by
  obtain ⟨a, vs, h1, h2, _, h3, h4⟩ := (h.flat rfl).tup_inv
  exact ⟨a, vs, h1, h2, h3, h4⟩
theorem Dx.lst_inv {ds : List PyData} (h : Dx r F Ω H v (.list ds)) : ∃ a vs, v = .ref a ∧ H a = some (.lst vs) ∧ vs.length ≤ LB ∧ DvA F.β Ω H vs ds := by
  have of : Dv F.β Ω H v (.list ds) → ∃ a vs, v = .ref a ∧ H a = some (.lst vs) ∧ vs.length ≤ LB ∧ DvA F.β Ω H vs ds := fun h => by
    obtain ⟨a, vs, h1, h2, _, h3, h4⟩ := h.lst_inv
    exact ⟨a, vs, h1, h2, h3, h4⟩
  cases r with
  | esc => exact of h
  | top =>
    rcases h with h | ⟨a, e, _, vs, h1, h2, h3⟩
    · exact of h
    · exact ⟨a, vs, e, h1, h2, h3⟩
theorem Dx.mono {σ : L2.St} {S : SEnv} {w : Drw} (R : Rel F H Ω σ S w) (e : Evs F.st H H') (h : Dx r F Ω H v d) : Dx r F Ω H' v d := by
  cases r with
  | esc => exact Dv.grow (R.grow e) h
  | top =>
    rcases h with h | ⟨a, q, h0, h⟩
    · exact .inl (h.grow (R.grow e))
    · obtain ⟨o, hO⟩ := h.some
      exact .inr ⟨a, q, h0, h.grow (R.grow e) ((e a o hO fun z => R.old a (R.stΨ z).1 h0).trans hO.symm)⟩
end
end Mini

set_option Elab.async false
set_option linter.all false
set_option maxRecDepth 100000
set_option maxHeartbeats 4000000
/-! Mini B: an expression of a def is modelled by a plain function of the plain environment. -/
namespace Mini
open PySem PySem.Spec PyProof.Rows L2

abbrev ME := SEnv → Drw → Option (PyData × Drw)
abbrev MT := SEnv → Drw → Option (Bool × Drw)
abbrev MA := SEnv → Drw → Option (List PyData × Drw)

inductive DxA {β : Bool} (r : Strg) (F : Fx β) (Ω : AS) (H : Hp) : List V → List PyData → Prop
  | nil : DxA r F Ω H [] []
  | cons {v : V} {vs : List V} {d : PyData} {ds : List PyData} : Dx r F Ω H v d → DxA r F Ω H vs ds → DxA r F Ω H (v :: vs) (d :: ds)
theorem DxA.dv {β : Bool} {F : Fx β} {Ω : AS} {H : Hp} : ∀ {vs : List V} {ds : List PyData}, DxA .esc F Ω H vs ds → DvA F.β Ω H vs ds
  | _, _, .nil => .nil
  | _, _, .cons h r => .cons h (DxA.dv r)
theorem DxA.one {r : Strg} {β : Bool} {F : Fx β} {Ω : AS} {H : Hp} {vs : List V} {d : PyData} (h : DxA r F Ω H vs [d]) : ∃ v, vs = [v] ∧ Dx r F Ω H v d := by
  cases h with
  | cons h r => cases r; exact ⟨_, rfl, h⟩
theorem DxA.two {r : Strg} {β : Bool} {F : Fx β} {Ω : AS} {H : Hp} {vs : List V} {d e : PyData} (h : DxA r F Ω H vs [d, e]) : ∃ v u, vs = [v, u] ∧ Dx r F Ω H v d ∧ Dx r F Ω H u e := by
  cases h with
  | cons h t => obtain ⟨u, rfl, k⟩ := t.one; exact ⟨_, _, rfl, h, k⟩

/-- the reading of a modelled expression, test, argument list -/
def tEv (β : Bool) (r : Strg) (m : ME) : TE := fun σ H Q => ∃ (F : Fx β) (Ω : AS) (S : SEnv) (w w' : Drw) (d : PyData),
  Rel F H Ω σ S w ∧ m S w = some (d, w') ∧ ∀ v H', Rel F H' Ω σ S w' → Evs F.st H H' → Dx r F Ω H' v d → Q v H'
def tTs (β : Bool) (m : MT) : TT := fun σ H Q => ∃ (F : Fx β) (Ω : AS) (S : SEnv) (w w' : Drw) (b : Bool),
  Rel F H Ω σ S w ∧ m S w = some (b, w') ∧ ∀ H', Rel F H' Ω σ S w' → Evs F.st H H' → Q b H'
def tAs (β : Bool) (r : Strg) (m : MA) : TA := fun σ H Q => ∃ (F : Fx β) (Ω : AS) (S : SEnv) (w w' : Drw) (ds : List PyData),
  Rel F H Ω σ S w ∧ m S w = some (ds, w') ∧ ∀ vs H', Rel F H' Ω σ S w' → Evs F.st H H' → DxA r F Ω H' vs ds → Q vs H'
def DE (β : Bool) (r : Strg) (X : Cx) (e : Expr) (m : ME) : Prop := PE X e (tEv β r m)
def DT (β : Bool) (X : Cx) (e : Expr) (m : MT) : Prop := PT X e (tTs β m)
def DW (β : Bool) (X : Cx) (e : Expr) (m : MT) : Prop := PW X e (tTs β m)
def DA (β : Bool) (r : Strg) (X : Cx) (es : List Expr) (m : MA) : Prop := PA X es (tAs β r m)

section
variable {X : Cx} {e : Expr} {es : List Expr}
theorem pe_imp {t t' : TE} (h : PE X e t) (k : ∀ σ H Q, t' σ H Q → t σ H Q) : PE X e t' := ⟨fun pins s σ H Q I hw => h.run pins s σ H Q I (k σ H Q hw)⟩
theorem pt_imp {t t' : TT} (h : PT X e t) (k : ∀ σ H Q, t' σ H Q → t σ H Q) : PT X e t' := ⟨fun pins s σ H Q I hw => h.run pins s σ H Q I (k σ H Q hw)⟩
theorem pw_imp {t t' : TT} (h : PW X e t) (k : ∀ σ H Q, t' σ H Q → t σ H Q) : PW X e t' := ⟨fun wh pins s σ H Q I hw => h.run wh pins s σ H Q I (k σ H Q hw)⟩
theorem pa_imp {t t' : TA} (h : PA X es t) (k : ∀ σ H Q, t' σ H Q → t σ H Q) : PA X es t' := ⟨fun pos pins s σ H Q I hw => h.run pos pins s σ H Q I (k σ H Q hw)⟩
end
theorem Rel.fresh {β : Bool} {F : Fx β} {H : Hp} {Ω : AS} {σ : L2.St} {S : SEnv} {w : Drw} (R : Rel F H Ω σ S w) {p : Addr} (h : H p = none) : ¬ Ω p := fun z => R.dom p z h

/-! ### plain combinators -/
def m1 (g : PyData → Option PyData) (ma : ME) : ME := fun S w => (ma S w).bind fun p => (g p.1).map fun d => (d, p.2)
def m2 (g : PyData → PyData → Option PyData) (ma mb : ME) : ME := fun S w => (ma S w).bind fun p => (mb S p.2).bind fun q => (g p.1 q.1).map fun d => (d, q.2)
def mC (d : PyData) : ME := fun _ w => some (d, w)
/-- a name: what may be kept | what is looked at -/
def mVar (i : Nat) : ME := fun S w => match S[i]? with
  | some (.val d) => some (d, w)
  | _ => none
def mLook (i : Nat) : ME := fun S w => match S[i]? with
  | some (.val d) => some (d, w)
  | some (.own d) => some (d, w)
  | _ => none
def mAnd (a b : MT) : MT := fun S w => (a S w).bind fun p => if p.1 = true then b S p.2 else some (false, p.2)
def mOr (a b : MT) : MT := fun S w => (a S w).bind fun p => if p.1 = true then some (true, p.2) else b S p.2
def mNot (a : MT) : MT := fun S w => (a S w).map fun p => (!p.1, p.2)
def mIte (t : MT) (a b : ME) : ME := fun S w => (t S w).bind fun p => if p.1 = true then a S p.2 else b S p.2
/-- a bool value as a test, a test as a bool value -/
def mB (a : ME) : MT := fun S w => (a S w).bind fun p => match p.1 with
  | .bool b => some (b, p.2)
  | _ => none
def mV (t : MT) : ME := fun S w => (t S w).map fun p => (.bool p.1, p.2)
def mNil : MA := fun _ w => some ([], w)
def mCons (a : ME) (r : MA) : MA := fun S w => (a S w).bind fun p => (r S p.2).map fun q => (p.1 :: q.1, q.2)
def mTup (a : MA) : ME := fun S w => (a S w).bind fun p => if p.1.length ≤ LB then some (.tuple p.1, p.2) else none
def mLst (a : MA) : ME := fun S w => (a S w).bind fun p => if p.1.length ≤ LB then some (.list p.1, p.2) else none
/-- a builtin over its arguments' data -/
def mF (g : List PyData → Option PyData) (a : MA) : ME := fun S w => (a S w).bind fun p => (g p.1).map fun d => (d, p.2)

section
variable {β : Bool} {X : Cx} {a b c e : Expr} {es : List Expr} {pos : Pos} {r ra rb rc : Strg} {ma mb mc m : ME} {ta tb : MT} {mr : MA}

/-! ### names, constants -/
theorem de_var {i : Nat} {x : Str} (h : PE X (.Name x pos) (tVar i)) : DE β .esc X (.Name x pos) (mVar i) := pe_imp h fun σ H Q ⟨F, Ω, S, w, w', d, R, hm, q⟩ => by
  unfold mVar at hm
  cases hs : S[i]? with
  | none => rw [hs] at hm; cases hm
  | some sl =>
    rw [hs] at hm
    cases sl with
    | val d' =>
      cases hm
      obtain ⟨v, h1, h2⟩ := R.slot i _ hs
      exact ⟨v, h1, q v H R (Evs.refl _ _) h2⟩
    | _ => cases hm
theorem de_look {i : Nat} {x : Str} (h : PE X (.Name x pos) (tVar i)) : DE β .top X (.Name x pos) (mLook i) := pe_imp h fun σ H Q ⟨F, Ω, S, w, w', d, R, hm, q⟩ => by
  unfold mLook at hm
  cases hs : S[i]? with
  | none => rw [hs] at hm; cases hm
  | some sl =>
    rw [hs] at hm
    cases sl with
    | val d' =>
      cases hm
      obtain ⟨v, h1, h2⟩ := R.slot i _ hs
      exact ⟨v, h1, q v H R (Evs.refl _ _) (.inl h2)⟩
    | own d' =>
      cases hm
      obtain ⟨a, h1, h2, h3, h4⟩ := R.slot i _ hs
      exact ⟨.ref a, h1, q (.ref a) H R (Evs.refl _ _) (.inr ⟨a, rfl, h3, h4⟩)⟩
    | _ => cases hm
theorem de_top (h : DE β .esc X e m) : DE β .top X e m := pe_imp h fun σ H Q ⟨F, Ω, S, w, w', d, R, hm, q⟩ => ⟨F, Ω, S, w, w', d, R, hm, fun v H' R' ev hd => q v H' R' ev (.inl hd)⟩
theorem de_const {v : V} {d : PyData} (h : PE X e (tC v)) (hd : ∀ β Ω H, Dv β Ω H v d) : DE β .esc X e (mC d) := pe_imp h fun σ H Q ⟨F, Ω, S, w, w', d', R, hm, q⟩ => by
  cases hm
  exact q v H R (Evs.refl _ _) (hd F.β Ω H)
theorem de_int {i : Int} {j : Nat} : DE β .esc X (.Constant (.int i) j pos) (mC (.int i)) := de_const pe_int fun _ _ _ => .int i
theorem de_bl {i : Bool} {j : Nat} : DE β .esc X (.Constant (.bool i) j pos) (mC (.bool i)) := de_const pe_bl fun _ _ _ => .bl i
theorem de_non {j : Nat} : DE β .esc X (.Constant .none j pos) (mC .none) := de_const pe_non fun _ _ _ => .non
theorem de_str {i : Str} {j : Nat} : DE β .esc X (.Constant (.str i) j pos) (mC (.str i)) := de_const pe_str fun _ _ _ => .str i
/-- a constant of the module -/
theorem de_gint {x : Str} {i : Int} {u : Value} (hg : Gl X x) (hm : X.mg x = some u) (hu : ∃ t, u = .int i t) (hd : (x == ("__debug__" : Str)) = false := by decide) : DE β .esc X (.Name x pos) (mC (.int i)) :=
  de_const (pe_glob (v := .int i) hg hm hu hd) fun _ _ _ => .int i

/-! ### two-place operations -/
def Op2 (β : Bool) (ra rb : Strg) (rl : R2) (g : PyData → PyData → Option PyData) : Prop := ∀ (F : Fx β) (H : Hp) (Ω : AS) (σ : L2.St) (S : SEnv) (w : Drw) (x y : V) (dx dy d : PyData) (Q : VK), Rel F H Ω σ S w → Dx ra F Ω H x dx → Dx rb F Ω H y dy → g dx dy = some d →
  (∀ v H', Ext H H' → Dv F.β Ω H' v d → Q v H') → rl x y H Q
theorem op2_imp {rl : R2} {g : PyData → PyData → Option PyData} (hg : Op2 β ra rb rl g) {σ : L2.St} {H : Hp} {Q : VK} (h : tEv β .esc (m2 g ma mb) σ H Q) : tOp rl (tEv β ra ma) (tEv β rb mb) σ H Q := by
  obtain ⟨F, Ω, S, w, w', d, R, hm, q⟩ := h
  unfold m2 at hm
  obtain ⟨⟨dx, w1⟩, h1, hm⟩ := Option.bind_eq_some_iff.mp hm
  obtain ⟨⟨dy, w2⟩, h2, hm⟩ := Option.bind_eq_some_iff.mp hm
  obtain ⟨d', h3, hm⟩ := Option.map_eq_some_iff.mp hm
  cases hm
  refine ⟨F, Ω, S, w, w1, dx, R, h1, fun x H1 R1 e1 hx => ⟨F, Ω, S, w1, _, dy, R1, h2, fun y H2 R2 e2 hy => ?_⟩⟩
  refine hg F H2 Ω σ S _ x y dx dy _ Q R2 (hx.mono R1 e2) hy h3 fun v H3 e3 hv => ?_
  exact q v H3 (R2.ex e3) ((e1.trans e2).trans e3.evs) hv
theorem de_op {op : Operator} {rl : R2} {g : PyData → PyData → Option PyData} (ho : OpR X (binaryOp op) rl) (hg : Op2 β ra rb rl g) (ha : DE β ra X a ma) (hb : DE β rb X b mb) : DE β .esc X (.BinOp a op b pos) (m2 g ma mb) :=
  pe_imp (pe_op ho ha hb) fun _ _ _ h => op2_imp hg h
theorem de_cmp {op : CmpOp} {rl : R2} {g : PyData → PyData → Option PyData} (ho : OpR X (compareOp op) rl) (hg : Op2 β ra rb rl g) (ha : DE β ra X a ma) (hb : DE β rb X b mb) (hm : behindInMarks op b = false := by rfl) : DE β .esc X (.Compare a [op] [b] pos) (m2 g ma mb) :=
  pe_imp (pe_cmpR ho ha hb hm) fun _ _ _ h => op2_imp hg h
theorem de_ix {rl : R2} {g : PyData → PyData → Option PyData} (ho : IxR X rl) (hg : Op2 β ra rb rl g) (ha : DE β ra X a ma) (hb : DE β rb X b mb) (hp : PlainIx b := by exact fun _ _ => rfl) : DE β .esc X (.Subscript a b pos) (m2 g ma mb) :=
  pe_imp (pe_ix ho ha hb hp) fun _ _ _ h => op2_imp hg h

/-! ### values as tests, tests as values -/
theorem tB_imp {σ : L2.St} {H : Hp} {Q : Bool → Hp → Prop} (h : tTs β (mB m) σ H Q) : tB (tEv β .esc m) σ H Q := by
  obtain ⟨F, Ω, S, w, w', d, R, hm, q⟩ := h
  unfold mB at hm
  obtain ⟨⟨dx, w1⟩, h1, hm⟩ := Option.bind_eq_some_iff.mp hm
  cases dx with
  | bool k =>
    cases hm
    exact ⟨F, Ω, S, w, _, .bool d, R, h1, fun v H1 R1 e1 hv => ⟨d, Dv.bl_inv hv, q H1 R1 e1⟩⟩
  | _ => cases hm
/-- an expression whose value is a bool, as a test -/
theorem dt_val (h : DE β .esc X e m) (he : ∀ whole, isTrue e X.env whole = (do let v ← whole; standAt e.pos; holding [v] (truthy v)) := by intro _; rfl) : DT β X e (mB m) := pt_imp (pt_val h he) fun _ _ _ h => tB_imp h
theorem dt_cmp {op : CmpOp} {rl : R2} {g : PyData → PyData → Option PyData} (ho : OpR X (compareOp op) rl) (hg : Op2 β ra rb rl g) (ha : DE β ra X a ma) (hb : DE β rb X b mb) (hm : behindInMarks op b = false := by rfl) : DT β X (.Compare a [op] [b] pos) (mB (m2 g ma mb)) :=
  pt_imp (pt_cmpR ho ha hb hm) fun σ H Q h => by
    obtain ⟨F, Ω, S, w, w', d, R, hm, q⟩ := tB_imp h
    exact op2_imp hg ⟨F, Ω, S, w, w', d, R, hm, q⟩
theorem dt_w (h : DW β X e ta) : DT β X e ta := h.pt
theorem dw_and1 (h : DT β X a ta) : DW β X (.BoolOp .And [a] pos) ta := pw_and1 h
theorem dw_or1 (h : DT β X a ta) : DW β X (.BoolOp .Or [a] pos) ta := pw_or1 h
theorem dw_and (h : DT β X a ta) (hr : DW β X (.BoolOp .And (b :: es) pos) tb) : DW β X (.BoolOp .And (a :: b :: es) pos) (mAnd ta tb) := pw_imp (pw_and h hr) fun σ H Q ⟨F, Ω, S, w, w', d, R, hm, q⟩ => by
  unfold mAnd at hm
  obtain ⟨⟨k, w1⟩, h1, hm⟩ := Option.bind_eq_some_iff.mp hm
  refine ⟨F, Ω, S, w, w1, k, R, h1, fun H1 R1 e1 => ?_⟩
  cases k with
  | true => exact iteT ⟨F, Ω, S, w1, w', d, R1, hm, fun H2 R2 e2 => q H2 R2 (e1.trans e2)⟩
  | false =>
    cases hm
    exact iteF (q H1 R1 e1)
theorem dw_or (h : DT β X a ta) (hr : DW β X (.BoolOp .Or (b :: es) pos) tb) : DW β X (.BoolOp .Or (a :: b :: es) pos) (mOr ta tb) := pw_imp (pw_or h hr) fun σ H Q ⟨F, Ω, S, w, w', d, R, hm, q⟩ => by
  unfold mOr at hm
  obtain ⟨⟨k, w1⟩, h1, hm⟩ := Option.bind_eq_some_iff.mp hm
  refine ⟨F, Ω, S, w, w1, k, R, h1, fun H1 R1 e1 => ?_⟩
  cases k with
  | true =>
    cases hm
    exact iteT (q H1 R1 e1)
  | false => exact iteF ⟨F, Ω, S, w1, w', d, R1, hm, fun H2 R2 e2 => q H2 R2 (e1.trans e2)⟩
theorem dt_not (h : DT β X a ta) : DT β X (.UnaryOp .Not a pos) (mNot ta) := pt_imp (pt_not h) fun σ H Q ⟨F, Ω, S, w, w', d, R, hm, q⟩ => by
  unfold mNot at hm
  obtain ⟨⟨k, w1⟩, h1, hm⟩ := Option.map_eq_some_iff.mp hm
  cases hm
  exact ⟨F, Ω, S, w, _, k, R, h1, q⟩
/-- and, or, not as values, the parts bools -/
def mAndV (a b : ME) : ME := fun S w => (a S w).bind fun p => match p.1 with
  | .bool true => b S p.2
  | .bool false => some (.bool false, p.2)
  | _ => none
def mOrV (a b : ME) : ME := fun S w => (a S w).bind fun p => match p.1 with
  | .bool true => some (.bool true, p.2)
  | .bool false => b S p.2
  | _ => none
def mNotV (a : ME) : ME := fun S w => (a S w).bind fun p => match p.1 with
  | .bool k => some (.bool (!k), p.2)
  | _ => none
theorem de_one {op : BoolOp} (h : DE β r X a m) : DE β r X (.BoolOp op [a] pos) m := pe_one h
theorem de_and (h : DE β .esc X a ma) (hr : DE β .esc X (.BoolOp .And (b :: es) pos) mb) : DE β .esc X (.BoolOp .And (a :: b :: es) pos) (mAndV ma mb) := pe_imp (pe_and h hr) fun σ H Q ⟨F, Ω, S, w, w', d, R, hm, q⟩ => by
  unfold mAndV at hm
  obtain ⟨⟨dx, w1⟩, h1, hm⟩ := Option.bind_eq_some_iff.mp hm
  refine ⟨F, Ω, S, w, w1, dx, R, h1, fun v H1 R1 e1 hv => ?_⟩
  cases dx with
  | bool k =>
    refine ⟨k, Dv.bl_inv hv, ?_⟩
    cases k with
    | true => exact iteT ⟨F, Ω, S, w1, w', d, R1, hm, fun v2 H2 R2 e2 => q v2 H2 R2 (e1.trans e2)⟩
    | false =>
      cases hm
      exact iteF (q (.bl false) H1 R1 e1 (Dv.bl false))
  | _ => cases hm
theorem de_or (h : DE β .esc X a ma) (hr : DE β .esc X (.BoolOp .Or (b :: es) pos) mb) : DE β .esc X (.BoolOp .Or (a :: b :: es) pos) (mOrV ma mb) := pe_imp (pe_or h hr) fun σ H Q ⟨F, Ω, S, w, w', d, R, hm, q⟩ => by
  unfold mOrV at hm
  obtain ⟨⟨dx, w1⟩, h1, hm⟩ := Option.bind_eq_some_iff.mp hm
  refine ⟨F, Ω, S, w, w1, dx, R, h1, fun v H1 R1 e1 hv => ?_⟩
  cases dx with
  | bool k =>
    refine ⟨k, Dv.bl_inv hv, ?_⟩
    cases k with
    | true =>
      cases hm
      exact iteT (q (.bl true) H1 R1 e1 (Dv.bl true))
    | false => exact iteF ⟨F, Ω, S, w1, w', d, R1, hm, fun v2 H2 R2 e2 => q v2 H2 R2 (e1.trans e2)⟩
  | _ => cases hm
theorem de_not (h : DE β .esc X a ma) : DE β .esc X (.UnaryOp .Not a pos) (mNotV ma) := pe_imp (pe_not h) fun σ H Q ⟨F, Ω, S, w, w', d, R, hm, q⟩ => by
  unfold mNotV at hm
  obtain ⟨⟨dx, w1⟩, h1, hm⟩ := Option.bind_eq_some_iff.mp hm
  refine ⟨F, Ω, S, w, w1, dx, R, h1, fun v H1 R1 e1 hv => ?_⟩
  cases dx with
  | bool k =>
    cases hm
    exact ⟨k, Dv.bl_inv hv, q _ H1 R1 e1 (Dv.bl _)⟩
  | _ => cases hm
theorem de_if (hc : DT β X c ta) (ha : DE β r X a ma) (hb : DE β r X b mb) : DE β r X (.IfExp c a b pos) (mIte ta ma mb) := pe_imp (pe_ifExp hc ha hb) fun σ H Q ⟨F, Ω, S, w, w', d, R, hm, q⟩ => by
  unfold mIte at hm
  obtain ⟨⟨k, w1⟩, h1, hm⟩ := Option.bind_eq_some_iff.mp hm
  refine ⟨F, Ω, S, w, w1, k, R, h1, fun H1 R1 e1 => ?_⟩
  cases k with
  | true => exact iteT ⟨F, Ω, S, w1, w', d, R1, hm, fun v2 H2 R2 e2 => q v2 H2 R2 (e1.trans e2)⟩
  | false => exact iteF ⟨F, Ω, S, w1, w', d, R1, hm, fun v2 H2 R2 e2 => q v2 H2 R2 (e1.trans e2)⟩

/-! ### truth -/
def dTru : PyData → Option Bool
  | .none => some false
  | .bool b => some b
  | .int i => some (i != 0)
  | .list xs => some (!xs.isEmpty)
  | .tuple xs => some (!xs.isEmpty)
  | _ => none
def mTru (a : ME) : MT := fun S w => (a S w).bind fun p => (dTru p.1).map fun b => (b, p.2)
theorem DvA.isEmpty {β : Bool} {Ω : AS} {H : Hp} {vs : List V} {ds : List PyData} (h : DvA β Ω H vs ds) : vs.isEmpty = ds.isEmpty := by cases h <;> rfl
theorem dx_tru {β : Bool} {F : Fx β} {Ω : AS} {H : Hp} {v : V} {d : PyData} {k : Bool} (h : Dx r F Ω H v d) (hk : dTru d = some k) : TruV X.K v H k := by
  cases d with
  | none => rw [h.non_inv]; cases hk; rfl
  | bool b => rw [h.bl_inv]; cases hk; rfl
  | int i => rw [h.int_inv]; cases hk; rfl
  | list xs =>
    obtain ⟨p, vs, rfl, h1, _, h2⟩ := h.lst_inv
    cases hk
    exact .inl ⟨vs, .of h1, by rw [h2.isEmpty]⟩
  | tuple xs =>
    obtain ⟨p, vs, rfl, h1, _, h2⟩ := h.tup_inv
    cases hk
    exact .inr (.inl ⟨vs, h1.seq, by rw [h2.isEmpty]⟩)
  | _ => cases hk
theorem dt_tru (h : DE β r X e m) (he : ∀ whole, isTrue e X.env whole = (do let v ← whole; standAt e.pos; holding [v] (truthy v)) := by intro _; rfl) : DT β X e (mTru m) := pt_imp (pt_truth h he) fun σ H Q ⟨F, Ω, S, w, w', d, R, hm, q⟩ => by
  unfold mTru at hm
  obtain ⟨⟨dx, w1⟩, h1, hm⟩ := Option.bind_eq_some_iff.mp hm
  obtain ⟨k, h2, hm⟩ := Option.map_eq_some_iff.mp hm
  cases hm
  exact ⟨F, Ω, S, w, _, dx, R, h1, fun v H1 R1 e1 hv => ⟨_, dx_tru hv h2, q H1 R1 e1⟩⟩

/-! ### arguments, displays -/
theorem da_nil : DA β r X [] mNil := pa_imp pa_nil fun σ H Q ⟨F, Ω, S, w, w', d, R, hm, q⟩ => by
  cases hm
  exact q [] H R (Evs.refl _ _) .nil
theorem da_cons (h : DE β r X e m) (hr : DA β r X es mr) (hs : starEach (e :: es) X.env = (false, eval e X.env) :: starEach es X.env := by rfl) : DA β r X (e :: es) (mCons m mr) := pa_imp (pa_cons h hr hs) fun σ H Q ⟨F, Ω, S, w, w', d, R, hm, q⟩ => by
  unfold mCons at hm
  obtain ⟨⟨dx, w1⟩, h1, hm⟩ := Option.bind_eq_some_iff.mp hm
  obtain ⟨⟨ds, w2⟩, h2, hm⟩ := Option.map_eq_some_iff.mp hm
  cases hm
  exact ⟨F, Ω, S, w, w1, dx, R, h1, fun v H1 R1 e1 hv => ⟨F, Ω, S, w1, _, ds, R1, h2, fun vs H2 R2 e2 hvs => q (v :: vs) H2 R2 (e1.trans e2) (.cons (hv.mono R1 e2) hvs)⟩⟩
/-- a new tuple's object -/
def MkTup (β : Bool) (H : Hp) (vs : List V) (Q : VK) : Prop := match β with
  | false => ∀ p, H p = none → Q (.ref p) (upd H p (.tup vs))
  | true => ∀ (p : Addr) (o : Obj), H p = none → o.dict = none → Q (.ref p) (upd H p (.frz o (.tup vs)))
theorem new_tup {β : Bool} {F : Fx β} {H : Hp} {Ω : AS} {σ : L2.St} {S : SEnv} {w : Drw} {vs : List V} {ds : List PyData} {Q : VK} (R : Rel F H Ω σ S w) (h : DvA F.β Ω H vs ds) (hl : ds.length ≤ LB)
    (q : ∀ v H', Ext H H' → Dv F.β Ω H' v (.tuple ds) → Q v H') : MkTup F.β H vs Q := by
  have hz : vs.length ≤ LB := by rw [h.length]; exact hl
  unfold MkTup
  split
  · rename_i e
    intro p hp
    refine q _ _ (.new hp) (.tup ?_ (R.fresh hp) hz (h.grow (Ext.new hp).grow))
    rw [e]
    exact upd_same
  · rename_i e
    intro p o hp ho
    refine q _ _ (.new hp) (.tup ?_ (R.fresh hp) hz (h.grow (Ext.new hp).grow))
    rw [e]
    exact ⟨o, upd_same, ho⟩
/-- (a, b, ..): its object known -/
def tTupB (β : Bool) (t : TA) : TE := fun σ H Q => t σ H fun vs H1 => vs.length ≤ sizeLine ∧ MkTup β H1 vs Q
theorem obj_tup {X : Cx} {H' : Hp} {h : Heap} {p : Addr} {vs : List V} {us : List Value} (z : vs.length ≤ sizeLine) (r : Vals vs us) (e : h.get? p = some { cls := .type "tuple", data := .seq us.toArray }) : ObjOk X.prog X.w H' h p (.frz { cls := .type "tuple", data := .seq us.toArray } (.tup vs)) :=
  ⟨e, z, us, r, ⟨_, e, rfl, _, rfl⟩⟩
theorem pe_tupB {β : Bool} {k : Nat} {t : TA} {X : Cx} {es : List Expr} {pos : Pos} (h : PA X es t) : PE X (.Tuple es k pos) (tTupB β t) := by
  cases β with
  | false => exact pe_imp (pe_tup h) fun _ _ _ z => z
  | true =>
    refine ⟨fun pins s σ H Q I hq => wpAny_Tuple_spliced (thn (h.run pos pins s σ H _ I hq) fun us s1 ⟨vs, H1, I1, r, z, q⟩ => ⟨by rw [← r.length]; exact z, ?_⟩)⟩
    have hf : H1 s1.heap.objs.size = none := I1.hok.fresh (Nat.le_refl _)
    exact ⟨.ref s1.heap.objs.size, upd H1 s1.heap.objs.size (.frz _ (.tup vs)), I1.laid (t' := s1.toks) (fun b u e => Heap.get?_push_of_some _ e) (Nat.le_refl _) (obj_tup z r (Heap.get?_push_size _ rfl)), rfl, q _ _ hf rfl⟩
theorem new_lst {β : Bool} {F : Fx β} {H : Hp} {Ω : AS} {σ : L2.St} {S : SEnv} {w : Drw} {vs : List V} {ds : List PyData} {p : Addr} (R : Rel F H Ω σ S w) (h : DvA F.β Ω H vs ds) (hl : ds.length ≤ LB) (hp : H p = none) : Ext H (upd H p (.lst vs)) ∧ Dv F.β Ω (upd H p (.lst vs)) (.ref p) (.list ds) :=
  ⟨.new hp, .lst upd_same (R.fresh hp) (by rw [h.length]; exact hl) (h.grow (Ext.new hp).grow)⟩
theorem de_tup {k : Nat} (h : DA β .esc X es mr) : DE β .esc X (.Tuple es k pos) (mTup mr) := pe_imp (pe_tupB (β := β) h) fun σ H Q ⟨F, Ω, S, w, w', d, R, hm, q⟩ => by
  unfold mTup at hm
  obtain ⟨⟨ds, w1⟩, h1, hm⟩ := Option.bind_eq_some_iff.mp hm
  split at hm
  · rename_i hl
    cases hm
    refine ⟨F, Ω, S, w, _, ds, R, h1, fun vs H1 R1 e1 hvs => ⟨LB_line (by rw [hvs.dv.length]; exact hl), new_tup R1 hvs.dv hl fun v H2 e2 hv => q v H2 (R1.ex e2) (e1.trans e2.evs) hv⟩⟩
  · cases hm
theorem de_lst (h : DA β .esc X es mr) : DE β .esc X (.List es pos) (mLst mr) := pe_imp (pe_lst h) fun σ H Q ⟨F, Ω, S, w, w', d, R, hm, q⟩ => by
  unfold mLst at hm
  obtain ⟨⟨ds, w1⟩, h1, hm⟩ := Option.bind_eq_some_iff.mp hm
  split at hm
  · rename_i hl
    cases hm
    refine ⟨F, Ω, S, w, _, ds, R, h1, fun vs H1 R1 e1 hvs => ⟨LB_line (by rw [hvs.dv.length]; exact hl), fun p hp => ?_⟩⟩
    obtain ⟨e2, hv⟩ := new_lst R1 hvs.dv hl hp
    exact q _ _ (R1.ex e2) (e1.trans e2.evs) hv
  · cases hm

/-! ### calls of built-ins -/
def Fn (β : Bool) (r : Strg) (rl : List V → Hp → VK → Prop) (g : List PyData → Option PyData) : Prop := ∀ (F : Fx β) (H : Hp) (Ω : AS) (σ : L2.St) (S : SEnv) (w : Drw) (vs : List V) (ds : List PyData) (d : PyData) (Q : VK), Rel F H Ω σ S w → DxA r F Ω H vs ds → g ds = some d →
  (∀ v H', Ext H H' → Dv F.β Ω H' v d → Q v H') → rl vs H Q
theorem fn_imp {rl : List V → Hp → VK → Prop} {g : List PyData → Option PyData} (hg : Fn β r rl g) {σ : L2.St} {H : Hp} {Q : VK} (h : tEv β .esc (mF g mr) σ H Q) : tCB rl (tAs β r mr) σ H Q := by
  obtain ⟨F, Ω, S, w, w', d, R, hm, q⟩ := h
  unfold mF at hm
  obtain ⟨⟨ds, w1⟩, h1, hm⟩ := Option.bind_eq_some_iff.mp hm
  obtain ⟨d', h2, hm⟩ := Option.map_eq_some_iff.mp hm
  cases hm
  exact ⟨F, Ω, S, w, _, ds, R, h1, fun vs H1 R1 e1 hvs => hg F H1 Ω σ S _ vs ds _ Q R1 hvs h2 fun v H2 e2 hv => q v H2 (R1.ex e2) (e1.trans e2.evs) hv⟩
theorem de_callB {x : Str} {p : Pos} {id : String} {rl : List V → Hp → VK → Prop} {g : List PyData → Option PyData} (hc : CallR X (.builtin id) rl) (hf : Fn β r rl g) (hg : Gl X x) (hm : X.mg x = none) (hv : bootBuiltins x = some (.builtin id)) (ha : DA β r X (e :: es) mr)
    (hn : x ≠ "__name__" := by decide) (hdb : (x == ("__debug__" : Str)) = false := by decide) (he : starEach (e :: es) X.env = (false, eval e X.env) :: starEach es X.env := by rfl) (hpl : (backTo pos (starEach es X.env)).any (·.1) = false := by rfl) :
    DE β .esc X (.Call (.Name x p) (e :: es) [] pos) (mF g mr) := pe_imp (pe_callB hc hg hm hv ha hn hdb he hpl) fun _ _ _ h => fn_imp hf h
theorem de_callT {x : Str} {p : Pos} {T : String} {rl : List V → Hp → VK → Prop} {g : List PyData → Option PyData} (hc : CallR X (.type T) rl) (hf : Fn β r rl g) (hg : Gl X x) (hm : X.mg x = none) (hv : bootBuiltins x = some (.type T)) (ha : DA β r X (e :: es) mr)
    (hn : x ≠ "__name__" := by decide) (hdb : (x == ("__debug__" : Str)) = false := by decide) (he : starEach (e :: es) X.env = (false, eval e X.env) :: starEach es X.env := by rfl) (hpl : (backTo pos (starEach es X.env)).any (·.1) = false := by rfl) :
    DE β .esc X (.Call (.Name x p) (e :: es) [] pos) (mF g mr) := pe_imp (pe_callTy hc hg hm hv ha hn hdb he hpl) fun _ _ _ h => fn_imp hf h

end
end Mini

set_option Elab.async false
set_option linter.all false
set_option maxRecDepth 100000
set_option maxHeartbeats 4000000
set_option exponentiation.threshold 10000
/-! Mini C: operators, comparisons, indices, slices, built-ins over plain data. -/
namespace Mini
open PySem PySem.Spec PyProof.Rows L2

/-! ### data of a known depth, without dicts -/
def shp : Nat → PyData → Bool
  | _, .none => true
  | _, .bool _ => true
  | _, .int _ => true
  | _, .str _ => true
  | 0, .list _ => false
  | 0, .tuple _ => false
  | n + 1, .list xs => xs.all (shp n)
  | n + 1, .tuple xs => xs.all (shp n)
  | _, .dict _ => false
theorem shp_plain : ∀ (n : Nat) (d : PyData), shp n d = true → d.plain = true ∧ d.depth ≤ n
  | n, .none, _ => ⟨rfl, by simp [PyData.depth]⟩
  | n, .bool _, _ => ⟨rfl, by simp [PyData.depth]⟩
  | n, .int _, _ => ⟨rfl, by simp [PyData.depth]⟩
  | n, .str x, h => ⟨rfl, by simp [PyData.depth]⟩
  | 0, .list _, h => by simp [shp] at h
  | 0, .tuple _, h => by simp [shp] at h
  | n, .dict _, h => by cases n <;> simp [shp] at h
  | n + 1, .list xs, h => by
    have q : ∀ ys : List PyData, ys.all (shp n) = true → PyData.plainAll ys = true ∧ PyData.depthAll ys ≤ n := fun ys => by
      induction ys with
      | nil => intro _; exact ⟨rfl, by simp [PyData.depthAll]⟩
      | cons y ys ih =>
        intro k
        rw [List.all_cons, Bool.and_eq_true] at k
        obtain ⟨h1, h2⟩ := shp_plain n y k.1
        obtain ⟨h3, h4⟩ := ih k.2
        refine ⟨by simp [PyData.plainAll, h1, h3], ?_⟩
        simp only [PyData.depthAll]
        omega
    obtain ⟨h1, h2⟩ := q xs (by simpa [shp] using h)
    refine ⟨by simpa [PyData.plain] using h1, ?_⟩
    simp only [PyData.depth]
    omega
  | n + 1, .tuple xs, h => by
    have q : ∀ ys : List PyData, ys.all (shp n) = true → PyData.plainAll ys = true ∧ PyData.depthAll ys ≤ n := fun ys => by
      induction ys with
      | nil => intro _; exact ⟨rfl, by simp [PyData.depthAll]⟩
      | cons y ys ih =>
        intro k
        rw [List.all_cons, Bool.and_eq_true] at k
        obtain ⟨h1, h2⟩ := shp_plain n y k.1
        obtain ⟨h3, h4⟩ := ih k.2
        refine ⟨by simp [PyData.plainAll, h1, h3], ?_⟩
        simp only [PyData.depthAll]
        omega
    obtain ⟨h1, h2⟩ := q xs (by simpa [shp] using h)
    refine ⟨by simpa [PyData.plain] using h1, ?_⟩
    simp only [PyData.depth]
    omega
theorem shp_all {n : Nat} {xs : List PyData} (h : xs.all (shp n) = true) : PyData.plainAll xs = true ∧ PyData.depthAll xs ≤ n := by
  have h' : shp (n + 1) (.list xs) = true := h
  obtain ⟨h1, h2⟩ := shp_plain (n + 1) (.list xs) h'
  refine ⟨by simpa [PyData.plain] using h1, ?_⟩
  simp only [PyData.depth] at h2
  omega
mutual
theorem Dv.dp {K : PySem.W.Frag} {β : Bool} {Ω : AS} {H : Hp} : ∀ {n : Nat} {d : PyData} {v : V}, shp n d = true → Dv β Ω H v d → Dp K H v d
  | _, _, _, _, .non => .non
  | _, _, _, _, .bl b => .bl b
  | _, _, _, _, .int i => .int i
  | _, _, _, _, .str x => .str x
  | 0, _, _, h, .lst _ _ _ _ => by simp [shp] at h
  | 0, _, _, h, .tup _ _ _ _ => by simp [shp] at h
  | n + 1, _, _, h, .lst e _ _ r => .lst (.of e) (DvA.dp (n := n) (by simpa [shp] using h) r)
  | n + 1, _, _, h, .tup e _ _ r => .tup e.seq (DvA.dp (n := n) (by simpa [shp] using h) r)
  | n, _, _, h, .dK _ _ _ _ => by cases n <;> simp [shp] at h
  | n, _, _, h, .dT _ _ _ _ => by cases n <;> simp [shp] at h
theorem DvA.dp {K : PySem.W.Frag} {β : Bool} {Ω : AS} {H : Hp} : ∀ {n : Nat} {ds : List PyData} {vs : List V}, ds.all (shp n) = true → DvA β Ω H vs ds → DpAll K H vs ds
  | _, _, _, _, .nil => .nil
  | n, _, _, h, .cons h1 h2 => by
    rw [List.all_cons, Bool.and_eq_true] at h
    exact .cons (Dv.dp h.1 h1) (DvA.dp h.2 h2)
end
theorem Dx.dp {K : PySem.W.Frag} {r : Strg} {β : Bool} {F : Fx β} {Ω : AS} {H : Hp} {v : V} {n : Nat} {d : PyData} (s : shp n d = true) (h : Dx r F Ω H v d) : Dp K H v d := by
  cases d with
  | list ds =>
    obtain ⟨a, vs, rfl, h1, _, h2⟩ := h.lst_inv
    cases n with
    | zero => simp [shp] at s
    | succ n => exact .lst (.of h1) (DvA.dp (n := n) (by simpa [shp] using s) h2)
  | dict ps => cases n <;> simp [shp] at s
  | none => exact Dv.dp s (h.flat rfl)
  | bool b => exact Dv.dp s (h.flat rfl)
  | int i => exact Dv.dp s (h.flat rfl)
  | str x => exact Dv.dp s (h.flat rfl)
  | tuple ds => exact Dv.dp s (h.flat rfl)

theorem ite_some {α : Type} {c : Prop} [Decidable c] {a d : α} (h : (if c then some a else none) = some d) : c ∧ a = d := by
  by_cases k : c
  · rw [if_pos k] at h
    exact ⟨k, Option.some.inj h⟩
  · rw [if_neg k] at h
    cases h
/-! ### operations upon data -/
/-- factors that need not be looked at for their length -/
def bigN : Nat := 2 ^ 9000
def mulOk (i j : Int) : Prop := i.natAbs < 2 ^ 64 ∨ j.natAbs < 2 ^ 64 ∨ (i.natAbs < bigN ∧ j.natAbs < bigN)
instance (i j : Int) : Decidable (mulOk i j) := inferInstanceAs (Decidable (_ ∨ _ ∨ (_ ∧ _)))
def dAdd : PyData → PyData → Option PyData
  | .int i, .int j => some (.int (i + j))
  | .tuple xs, .tuple ys => if xs.length + ys.length ≤ LB then some (.tuple (xs ++ ys)) else none
  | .list xs, .list ys => if xs.length + ys.length ≤ LB then some (.list (xs ++ ys)) else none
  | _, _ => none
def dSub : PyData → PyData → Option PyData
  | .int i, .int j => some (.int (i - j))
  | _, _ => none
def dMul : PyData → PyData → Option PyData
  | .int i, .int j => if mulOk i j then some (.int (i * j)) else none
  | .list xs, .int k => if 0 ≤ k ∧ k.natAbs ≤ 1000000 ∧ xs.length * k.toNat ≤ LB then some (.list (List.replicate k.toNat xs).flatten) else none
  | _, _ => none
/-- a positive divisor -/
def dDiv : PyData → PyData → Option PyData
  | .int i, .int j => if 0 < j ∧ j.natAbs < bigN then some (.int (i / j)) else none
  | _, _ => none
def dMod : PyData → PyData → Option PyData
  | .int i, .int j => if 0 < j then some (.int (i % j)) else none
  | _, _ => none
/-- == and != of plain data -/
def rEqP (K : PySem.W.Frag) : R2 := fun x y H Q => ∃ d e, Dp K H x d ∧ Dp K H y e ∧ shp 8 d = true ∧ shp 8 e = true ∧ Q (.bl (PyData.eqv d e)) H
def rNeP (K : PySem.W.Frag) : R2 := fun x y H Q => ∃ d e, Dp K H x d ∧ Dp K H y e ∧ shp 8 d = true ∧ shp 8 e = true ∧ Q (.bl (!PyData.eqv d e)) H
theorem opr_eq {X : Cx} (hu : X.A.units + 64 < cLine) : OpR X (compareOp .Eq) (rEqP X.K) := by
  intro pins s σ H x y v u Q I rx ry ⟨d, e, hd, he, sd, se, q⟩
  obtain ⟨as, r1⟩ := Dp.reads I d x v hd rx
  obtain ⟨bs, r2⟩ := Dp.reads I e y u he ry
  obtain ⟨p1, z1⟩ := shp_plain 8 d sd
  obtain ⟨p2, z2⟩ := shp_plain 8 e se
  exact SeqAt.eq_plain r1 r2 p1 p2 (by omega) ⟨.bl _, H, I, rfl, q⟩
theorem opr_ne {X : Cx} (hu : X.A.units + 64 < cLine) : OpR X (compareOp .NotEq) (rNeP X.K) := by
  intro pins s σ H x y v u Q I rx ry ⟨d, e, hd, he, sd, se, q⟩
  obtain ⟨as, r1⟩ := Dp.reads I d x v hd rx
  obtain ⟨bs, r2⟩ := Dp.reads I e y u he ry
  obtain ⟨p1, z1⟩ := shp_plain 8 d sd
  obtain ⟨p2, z2⟩ := shp_plain 8 e se
  exact SeqAt.ne_plain r1 r2 p1 p2 (by omega) ⟨.bl _, H, I, rfl, q⟩
def dEq (a b : PyData) : Option PyData := if shp 8 a = true ∧ shp 8 b = true then some (.bool (PyData.eqv a b)) else none
def dNe (a b : PyData) : Option PyData := if shp 8 a = true ∧ shp 8 b = true then some (.bool (!PyData.eqv a b)) else none
def dCmp (p : Int → Int → Bool) : PyData → PyData → Option PyData
  | .int i, .int j => some (.bool (p i j))
  | _, _ => none
abbrev dLt := dCmp fun i j => decide (i < j)
abbrev dLe := dCmp fun i j => decide (i ≤ j)
abbrev dGt := dCmp fun i j => decide (j < i)
abbrev dGe := dCmp fun i j => decide (j ≤ i)
def isNone : PyData → Bool
  | .none => true
  | _ => false
def dIsN (a b : PyData) : Option PyData := match b with
  | .none => some (.bool (isNone a))
  | _ => none
def dNotN (a b : PyData) : Option PyData := match b with
  | .none => some (.bool (!isNone a))
  | _ => none
def dIx : PyData → PyData → Option PyData
  | .list xs, .int i => atI xs i
  | .tuple xs, .int i => atI xs i
  | _, _ => none

/-- t + u -/
def rCatB (β : Bool) (K : PySem.W.Frag) : R2 := fun x y H Q => ∃ a b xs ys, x = .ref a ∧ y = .ref b ∧ SqT K H a xs ∧ SqT K H b ys ∧ xs.length + ys.length ≤ sizeLine ∧
  (xs = [] → Q (.ref b) H) ∧ (xs ≠ [] → ys = [] → Q (.ref a) H) ∧ (xs ≠ [] → ys ≠ [] → MkTup β H (xs ++ ys) Q)
theorem opr_catB {X : Cx} : ∀ β, OpR X (binaryOp .Add) (rCatB β X.K)
  | false => fun pins s σ H x y v u Q I rx ry h => op_catA pins s σ H x y v u Q I rx ry h
  | true => by
    intro pins s σ H x y v u Q I rx ry ⟨a, b, xs, ys, ex, ey, ha, hb, hz, q0, q1, q2⟩
    by_cases hx : xs = []
    · exact op_catA pins s σ H x y v u Q I rx ry ⟨a, b, xs, ys, ex, ey, ha, hb, hz, q0, q1, fun z => absurd hx z⟩
    · by_cases hy : ys = []
      · exact op_catA pins s σ H x y v u Q I rx ry ⟨a, b, xs, ys, ex, ey, ha, hb, hz, q0, q1, fun _ z => absurd hy z⟩
      · subst ex; subst ey
        cases rx
        cases ry
        obtain ⟨its, r1, p1, _⟩ := I.tuple ha
        obtain ⟨its2, r2, p2, _⟩ := I.tuple hb
        refine HT.cat_tup p1 p2 (fun z => hx (r1.nil_iff.mp z)) (fun z => absurd (r2.nil_iff.mp z) hy) (fun _ => ?_) (by rw [← r1.length, ← r2.length]; exact hz)
        exact ⟨.ref s.heap.objs.size, _, I.laid (t' := s.toks) (o := .frz _ (.tup (xs ++ ys))) (fun b ob q => Heap.get?_push_of_some _ q) (Nat.le_refl _) (obj_tup (by rw [List.length_append]; exact hz) (r1.append r2) (Heap.get?_push_size _ rfl)), rfl, q2 hx hy _ _ (I.hok.fresh (Nat.le_refl _)) rfl⟩
theorem op_add' {β : Bool} {ra rb : Strg} {X : Cx} : Op2 β ra rb (fun x y H Q => (rI0 fun i j => .int (i + j)) x y H Q ∨ rCatB β X.K x y H Q ∨ rCat x y H Q) dAdd := by
  intro F H Ω σ S w x y dx dy d Q R hx hy hg q
  cases dx with
  | int i =>
    cases dy with
    | int j =>
      cases hg
      exact .inl ⟨i, j, hx.int_inv, hy.int_inv, q _ H (Ext.refl H) (.int _)⟩
    | _ => cases hg
  | tuple xs =>
    cases dy with
    | tuple ys =>
      obtain ⟨hl, rfl⟩ := ite_some hg
      have hx' := hx.flat rfl
      have hy' := hy.flat rfl
      obtain ⟨a, vs, ex, h2, n1, l1, r1⟩ := hx'.tup_inv
      obtain ⟨b, us, ey, k2, n2, l2, r2⟩ := hy'.tup_inv
      have le1 := r1.length
      have le2 := r2.length
      refine .inr (.inl ⟨a, b, vs, us, ex, ey, h2.seq, k2.seq, LB_line (by rw [le1, le2]; exact hl), fun e0 => ?_, fun _ e0 => ?_, fun _ _ => ?_⟩)
      · have z : xs = [] := by cases xs with | nil => rfl | cons _ _ => rw [e0] at le1; cases le1
        rw [z, List.nil_append] at q
        rw [← ey]
        exact q y H (Ext.refl H) hy'
      · have z : ys = [] := by cases ys with | nil => rfl | cons _ _ => rw [e0] at le2; cases le2
        rw [z, List.append_nil] at q
        rw [← ex]
        exact q x H (Ext.refl H) hx'
      · exact new_tup R (r1.append r2) (by rw [List.length_append]; exact hl) q
    | _ => cases hg
  | list xs =>
    cases dy with
    | list ys =>
      obtain ⟨hl, rfl⟩ := ite_some hg
      obtain ⟨a, vs, ex, h2, l1, r1⟩ := hx.lst_inv
      obtain ⟨b, us, ey, k2, l2, r2⟩ := hy.lst_inv
      have le1 := r1.length
      have le2 := r2.length
      refine .inr (.inr ⟨a, b, vs, us, ex, ey, h2, k2, LB_line (by rw [le1, le2]; exact hl), fun p hp => ?_⟩)
      obtain ⟨e1, hv⟩ := new_lst R (r1.append r2) (by rw [List.length_append]; exact hl) hp
      exact q _ _ e1 hv
    | _ => cases hg
  | _ => cases hg
abbrev rAdd (K : PySem.W.Frag) (β : Bool) : R2 := fun x y H Q => (rI0 fun i j => .int (i + j)) x y H Q ∨ rCatB β K x y H Q ∨ rCat x y H Q
theorem opr_add {X : Cx} (β : Bool) : OpR X (binaryOp .Add) (rAdd X.K β) := op_add.or ((opr_catB β).or op_cat)

theorem rep_flat {β : Bool} {Ω : AS} {H : Hp} {vs : List V} {ds : List PyData} (h : DvA β Ω H vs ds) : ∀ k : Nat, DvA β Ω H (List.replicate k vs).flatten (List.replicate k ds).flatten
  | 0 => .nil
  | k + 1 => by
    rw [List.replicate_succ, List.replicate_succ, List.flatten_cons, List.flatten_cons]
    exact h.append (rep_flat h k)
theorem rep_len {α : Type} (xs : List α) (k : Nat) : (List.replicate k xs).flatten.length = xs.length * k := by
  induction k with
  | zero => rfl
  | succ k ih => rw [List.replicate_succ, List.flatten_cons, List.length_append, ih, Nat.mul_succ, Nat.add_comm]
theorem log2_big {n : Nat} (h : n < bigN) : n.log2 < 9000 := by
  by_cases z : n = 0
  · rw [z]; decide
  · exact (Nat.log2_lt z).mpr h
theorem mulOk.ok {i j : Int} (h : mulOk i j) : IntMulOk i j := by
  rcases h with h | h | ⟨h1, h2⟩
  · exact CMul.ok (.inl ⟨by omega, by omega⟩)
  · exact CMul.ok (.inr ⟨by omega, by omega⟩)
  · have a := log2_big h1
    have b := log2_big h2
    exact CMulW.ok (show i.natAbs.log2 + j.natAbs.log2 < 1000000 by omega)
abbrev rMul : R2 := fun x y H Q => rI mulOk (fun i j => .int (i * j)) x y H Q ∨ rRep x y H Q
theorem opr_mul {X : Cx} : OpR X (binaryOp .Mult) rMul := (opI fun _ _ _ _ _ _ _ hc q => mul_int q (mulOk.ok hc)).or op_rep
theorem iop_mulW {X : Cx} : OpR X (inplaceOp .Mult) (rI mulOk fun i j => .int (i * j)) := opI fun _ _ _ _ _ _ _ hc q => imul_int q (mulOk.ok hc)
theorem op_mul' {ra rb : Strg} : Op2 β ra rb rMul dMul := by
  intro F H Ω σ S w x y dx dy d Q R hx hy hg q
  cases dx with
  | int i =>
    cases dy with
    | int j =>
      obtain ⟨hc, rfl⟩ := ite_some hg
      exact .inl ⟨i, j, hx.int_inv, hy.int_inv, hc, q _ H (Ext.refl H) (.int _)⟩
    | _ => cases hg
  | list xs =>
    cases dy with
    | int k =>
      obtain ⟨⟨h0, h1, hl⟩, rfl⟩ := ite_some hg
      obtain ⟨a, vs, ex, h2, l1, r1⟩ := hx.lst_inv
      have hz : vs.length * k.toNat ≤ LB := by rw [r1.length]; exact hl
      refine .inr ⟨a, k, vs, ex, hy.int_inv, h2, by omega, by omega, LB_line hz, fun p hp => ?_⟩
      obtain ⟨e1, hv⟩ := new_lst R (rep_flat r1 k.toNat) (by rw [rep_len]; exact hl) hp
      exact q _ _ e1 hv
    | _ => cases hg
  | _ => cases hg
/-! ints in, a value out -/
theorem op_ii {ra rb : Strg} {g : Int → Int → V} {gd : Int → Int → PyData} {f : PyData → PyData → Option PyData} (hf : ∀ a b d, f a b = some d → ∃ i j, a = .int i ∧ b = .int j ∧ d = gd i j) (hv : ∀ i j β Ω H, Dv β Ω H (g i j) (gd i j)) : Op2 β ra rb (rI0 g) f := by
  intro F H Ω σ S w x y dx dy d Q R hx hy hg q
  obtain ⟨i, j, rfl, rfl, rfl⟩ := hf _ _ _ hg
  exact ⟨i, j, hx.int_inv, hy.int_inv, q _ H (Ext.refl H) (hv i j F.β Ω H)⟩
theorem op_iic {ra rb : Strg} {C : Int → Int → Prop} {g : Int → Int → V} {gd : Int → Int → PyData} {f : PyData → PyData → Option PyData} (hf : ∀ a b d, f a b = some d → ∃ i j, a = .int i ∧ b = .int j ∧ C i j ∧ d = gd i j) (hv : ∀ i j β Ω H, Dv β Ω H (g i j) (gd i j)) : Op2 β ra rb (rI C g) f := by
  intro F H Ω σ S w x y dx dy d Q R hx hy hg q
  obtain ⟨i, j, rfl, rfl, hc, rfl⟩ := hf _ _ _ hg
  exact ⟨i, j, hx.int_inv, hy.int_inv, hc, q _ H (Ext.refl H) (hv i j F.β Ω H)⟩
theorem op_sub' {ra rb : Strg} : Op2 β ra rb (rI0 fun i j => .int (i - j)) dSub := op_ii (gd := fun i j => .int (i - j)) (fun a b d h => by
  cases a <;> first | cases h | (cases b <;> first | cases h; done | (cases h; exact ⟨_, _, rfl, rfl, rfl⟩) | cases h)) fun _ _ _ _ _ => .int _
theorem op_cmp' {ra rb : Strg} {p : Int → Int → Bool} : Op2 β ra rb (rI0 fun i j => .bl (p i j)) (dCmp p) := op_ii (gd := fun i j => .bool (p i j)) (fun a b d h => by
  cases a <;> first | (cases h; done) | (cases b <;> first | (cases h; exact ⟨_, _, rfl, rfl, rfl⟩) | cases h)) fun _ _ _ _ _ => .bl _
def CDivB (i j : Int) : Prop := 0 < j ∧ j.natAbs < bigN
theorem opr_div {X : Cx} : OpR X (binaryOp .FloorDiv) (rI CDivB fun i j => .int (i / j)) := opI fun i j _ _ _ _ _ hc q =>
  floordiv_int (Int.ne_of_gt hc.1) (by rw [Int.fdiv_eq_ediv_of_nonneg i (Int.le_of_lt hc.1)]; exact q) (.inl (PyProof.noPylong_of_log2 (log2_big hc.2)))
theorem op_div' {ra rb : Strg} : Op2 β ra rb (rI CDivB fun i j => .int (i / j)) dDiv := op_iic (gd := fun i j => .int (i / j)) (fun a b d h => by
  cases a <;> first | (cases h; done) | (cases b <;> first | (obtain ⟨hc, e⟩ := ite_some h; exact ⟨_, _, rfl, rfl, hc, e.symm⟩) | cases h)) fun _ _ _ _ _ => .int _
theorem op_mod' {ra rb : Strg} : Op2 β ra rb (rI (fun _ j => 0 < j) fun i j => .int (i % j)) dMod := op_iic (gd := fun i j => .int (i % j)) (fun a b d h => by
  cases a <;> first | (cases h; done) | (cases b <;> first | (obtain ⟨hc, e⟩ := ite_some h; exact ⟨_, _, rfl, rfl, hc, e.symm⟩) | cases h)) fun _ _ _ _ _ => .int _
theorem op_eq' {K : PySem.W.Frag} {ra rb : Strg} : Op2 β ra rb (rEqP K) dEq := by
  intro F H Ω σ S w x y dx dy d Q R hx hy hg q
  obtain ⟨⟨h1, h2⟩, rfl⟩ := ite_some hg
  exact ⟨dx, dy, hx.dp h1, hy.dp h2, h1, h2, q _ H (Ext.refl H) (.bl _)⟩
theorem op_ne' {K : PySem.W.Frag} {ra rb : Strg} : Op2 β ra rb (rNeP K) dNe := by
  intro F H Ω σ S w x y dx dy d Q R hx hy hg q
  obtain ⟨⟨h1, h2⟩, rfl⟩ := ite_some hg
  exact ⟨dx, dy, hx.dp h1, hy.dp h2, h1, h2, q _ H (Ext.refl H) (.bl _)⟩
theorem dx_none {r : Strg} {β : Bool} {F : Fx β} {Ω : AS} {H : Hp} {v : V} {d : PyData} (h : Dx r F Ω H v d) : decide (v = .non) = isNone d := by
  have of : ∀ {d : PyData}, Dv F.β Ω H v d → decide (v = .non) = isNone d := fun {d} h => by cases h <;> simp [isNone]
  cases r with
  | esc => exact of h
  | top =>
    rcases h with h | ⟨a, e, _, h⟩
    · exact of h
    · rw [e]
      cases d <;> first | exact False.elim h | simp [isNone]
theorem op_isN' {ra rb : Strg} : Op2 β ra rb (fun x y H Q => y = .non ∧ Q (.bl (decide (x = .non))) H) dIsN := by
  intro F H Ω σ S w x y dx dy d Q R hx hy hg q
  cases dy with
  | none =>
    cases hg
    exact ⟨hy.non_inv, q _ H (Ext.refl H) (by rw [dx_none hx]; exact .bl _)⟩
  | _ => cases hg
theorem op_notN' {ra rb : Strg} : Op2 β ra rb (fun x y H Q => y = .non ∧ Q (.bl (!decide (x = .non))) H) dNotN := by
  intro F H Ω σ S w x y dx dy d Q R hx hy hg q
  cases dy with
  | none =>
    cases hg
    exact ⟨hy.non_inv, q _ H (Ext.refl H) (by rw [dx_none hx]; exact .bl _)⟩
  | _ => cases hg
abbrev rIxX (K : PySem.W.Frag) : R2 := fun x y H Q => rIxL K x y H Q ∨ rIxT K x y H Q
theorem ixr {X : Cx} : IxR X (rIxX X.K) := ix_list.or ix_tup
theorem op_ix' {K : PySem.W.Frag} {ra rb : Strg} : Op2 β ra rb (rIxX K) dIx := by
  intro F H Ω σ S w x y dx dy d Q R hx hy hg q
  cases dx with
  | list xs =>
    cases dy with
    | int i =>
      obtain ⟨a, vs, ex, h2, l1, r1⟩ := hx.lst_inv
      obtain ⟨v, hv, dv⟩ := r1.at (show atI xs i = some d from hg)
      exact .inl ⟨a, vs, i, v, ex, hy.int_inv, .of h2, hv, q v H (Ext.refl H) dv⟩
    | _ => cases hg
  | tuple xs =>
    cases dy with
    | int i =>
      obtain ⟨a, vs, ex, h2, l1, r1⟩ := hx.tup_inv
      obtain ⟨v, hv, dv⟩ := r1.at (show atI xs i = some d from hg)
      exact .inr ⟨a, vs, i, v, ex, hy.int_inv, h2.seq, hv, q v H (Ext.refl H) dv⟩
    | _ => cases hg
  | _ => cases hg

section
variable {β : Bool} {X : Cx} {a b c e : Expr} {es : List Expr} {pos : Pos} {r ra rb rc : Strg} {ma mb mc m : ME} {ta tb : MT} {mr : MA} {k : Nat}
theorem de_add (ha : DE β ra X a ma) (hb : DE β rb X b mb) : DE β .esc X (.BinOp a .Add b pos) (m2 dAdd ma mb) := de_op (opr_add β) op_add' ha hb
theorem de_sub (ha : DE β ra X a ma) (hb : DE β rb X b mb) : DE β .esc X (.BinOp a .Sub b pos) (m2 dSub ma mb) := de_op op_sub op_sub' ha hb
theorem de_mul (ha : DE β ra X a ma) (hb : DE β rb X b mb) : DE β .esc X (.BinOp a .Mult b pos) (m2 dMul ma mb) := de_op opr_mul op_mul' ha hb
theorem de_div (ha : DE β ra X a ma) (hb : DE β rb X b mb) : DE β .esc X (.BinOp a .FloorDiv b pos) (m2 dDiv ma mb) := de_op opr_div op_div' ha hb
theorem de_mod (ha : DE β ra X a ma) (hb : DE β rb X b mb) : DE β .esc X (.BinOp a .Mod b pos) (m2 dMod ma mb) := de_op op_mod op_mod' ha hb
theorem de_index (ha : DE β ra X a ma) (hb : DE β rb X b mb) (hp : PlainIx b := by exact fun _ _ => rfl) : DE β .esc X (.Subscript a b pos) (m2 dIx ma mb) := de_ix ixr op_ix' ha hb hp
theorem de_lt (ha : DE β ra X a ma) (hb : DE β rb X b mb) : DE β .esc X (.Compare a [.Lt] [b] pos) (m2 dLt ma mb) := de_cmp op_lt op_cmp' ha hb (nomark b)
theorem de_le (ha : DE β ra X a ma) (hb : DE β rb X b mb) : DE β .esc X (.Compare a [.LtE] [b] pos) (m2 dLe ma mb) := de_cmp op_le op_cmp' ha hb (nomark b)
theorem de_gt (ha : DE β ra X a ma) (hb : DE β rb X b mb) : DE β .esc X (.Compare a [.Gt] [b] pos) (m2 dGt ma mb) := de_cmp op_gt op_cmp' ha hb (nomark b)
theorem de_ge (ha : DE β ra X a ma) (hb : DE β rb X b mb) : DE β .esc X (.Compare a [.GtE] [b] pos) (m2 dGe ma mb) := de_cmp op_ge op_cmp' ha hb (nomark b)
theorem de_eq (hr : Room k X.A) (ha : DE β ra X a ma) (hb : DE β rb X b mb) : DE β .esc X (.Compare a [.Eq] [b] pos) (m2 dEq ma mb) := de_cmp (opr_eq hr.units) op_eq' ha hb (nomark b)
theorem de_ne (hr : Room k X.A) (ha : DE β ra X a ma) (hb : DE β rb X b mb) : DE β .esc X (.Compare a [.NotEq] [b] pos) (m2 dNe ma mb) := de_cmp (opr_ne hr.units) op_ne' ha hb (nomark b)
theorem de_is (ha : DE β ra X a ma) (hb : DE β rb X b mb) : DE β .esc X (.Compare a [.Is] [b] pos) (m2 dIsN ma mb) := de_cmp op_isN op_isN' ha hb (nomark b)
theorem de_isnot (ha : DE β ra X a ma) (hb : DE β rb X b mb) : DE β .esc X (.Compare a [.IsNot] [b] pos) (m2 dNotN ma mb) := de_cmp op_notN op_notN' ha hb (nomark b)
theorem dt_lt (ha : DE β ra X a ma) (hb : DE β rb X b mb) : DT β X (.Compare a [.Lt] [b] pos) (mB (m2 dLt ma mb)) := dt_cmp op_lt op_cmp' ha hb (nomark b)
theorem dt_le (ha : DE β ra X a ma) (hb : DE β rb X b mb) : DT β X (.Compare a [.LtE] [b] pos) (mB (m2 dLe ma mb)) := dt_cmp op_le op_cmp' ha hb (nomark b)
theorem dt_gt (ha : DE β ra X a ma) (hb : DE β rb X b mb) : DT β X (.Compare a [.Gt] [b] pos) (mB (m2 dGt ma mb)) := dt_cmp op_gt op_cmp' ha hb (nomark b)
theorem dt_ge (ha : DE β ra X a ma) (hb : DE β rb X b mb) : DT β X (.Compare a [.GtE] [b] pos) (mB (m2 dGe ma mb)) := dt_cmp op_ge op_cmp' ha hb (nomark b)
theorem dt_eq (hr : Room k X.A) (ha : DE β ra X a ma) (hb : DE β rb X b mb) : DT β X (.Compare a [.Eq] [b] pos) (mB (m2 dEq ma mb)) := dt_cmp (opr_eq hr.units) op_eq' ha hb (nomark b)
theorem dt_ne (hr : Room k X.A) (ha : DE β ra X a ma) (hb : DE β rb X b mb) : DT β X (.Compare a [.NotEq] [b] pos) (mB (m2 dNe ma mb)) := dt_cmp (opr_ne hr.units) op_ne' ha hb (nomark b)
theorem dt_is (ha : DE β ra X a ma) (hb : DE β rb X b mb) : DT β X (.Compare a [.Is] [b] pos) (mB (m2 dIsN ma mb)) := dt_cmp op_isN op_isN' ha hb (nomark b)
theorem dt_isnot (ha : DE β ra X a ma) (hb : DE β rb X b mb) : DT β X (.Compare a [.IsNot] [b] pos) (mB (m2 dNotN ma mb)) := dt_cmp op_notN op_notN' ha hb (nomark b)
end
end Mini

set_option Elab.async false
set_option linter.all false
set_option maxRecDepth 100000
set_option maxHeartbeats 4000000
/-! Mini D: built-ins, slices, chains of comparisons over plain data. -/
namespace Mini
open PySem PySem.Spec PyProof.Rows L2

/-! ### items of a list or tuple that is looked at -/
theorem Dx.seq_inv {K : PySem.W.Frag} {r : Strg} {β : Bool} {F : Fx β} {Ω : AS} {H : Hp} {v : V} {d : PyData} {ds : List PyData} (h : Dx r F Ω H v d) (hd : d = .list ds ∨ d = .tuple ds) : ∃ a vs, v = .ref a ∧ (SqL K H a vs ∨ SqT K H a vs) ∧ vs.length ≤ LB ∧ DvA F.β Ω H vs ds := by
  rcases hd with rfl | rfl
  · obtain ⟨a, vs, e, h1, h2, h3⟩ := h.lst_inv
    exact ⟨a, vs, e, .inl (.of h1), h2, h3⟩
  · obtain ⟨a, vs, e, h1, h2, h3⟩ := h.tup_inv
    exact ⟨a, vs, e, .inr h1.seq, h2, h3⟩
def seqOf : PyData → Option (List PyData)
  | .list xs => some xs
  | .tuple xs => some xs
  | _ => none
theorem seqOf_inv {d : PyData} {xs : List PyData} (h : seqOf d = some xs) : d = .list xs ∨ d = .tuple xs := by
  cases d <;> first | (cases h; done) | (cases h; first | exact .inl rfl | exact .inr rfl)

/-! ### len -/
def dLen : List PyData → Option PyData
  | [.str x] => if x.length ≤ LB then some (.int x.length) else none
  | [.dict ps] => some (.int ps.length)
  | [d] => (seqOf d).map fun xs => .int xs.length
  | _ => none
def rLenD : List V → Hp → VK → Prop := fun xs H Q => ∃ (a : Addr) (kvs : List (Key × V)), xs = [.ref a] ∧ Rd H a (.dK kvs) ∧ Q (.int kvs.length) H
theorem call_lenD' {X : Cx} : CallR X (.builtin "len") rLenD := by
  intro pins s σ H xs us Q I r ⟨a, kvs, ex, ha, q⟩
  subst ex
  obtain ⟨u, rfl, ru⟩ := vals1 r
  cases ru
  exact d_len I ha fun t s' I' => ⟨.int kvs.length, H, I', ⟨t, rfl⟩, q⟩
theorem zip_len {α β : Type} {xs : List α} {ys : List β} (h : xs.length = ys.length) : (xs.zip ys).length = xs.length := by rw [List.length_zip, h, Nat.min_self]
/-- lists, tuples, texts; dicts whose keys are ints, texts -/
theorem fn_len {K : PySem.W.Frag} {r : Strg} : Fn β r (fun xs H Q => ∃ x n, xs = [x] ∧ LenV K x H n ∧ Q (.int n) H) fun ds => match ds with | [.dict _] => none | _ => dLen ds := by
  intro F H Ω σ S w vs ds d Q R hv hg q
  match ds, hg with
  | [e], hg =>
    obtain ⟨v, rfl, hx⟩ := hv.one
    cases e with
    | str x =>
      obtain ⟨hl, rfl⟩ := ite_some hg
      exact ⟨v, x.length, rfl, by rw [hx.str_inv]; exact ⟨LB_line hl, rfl⟩, q _ H (Ext.refl H) (.int _)⟩
    | list xs =>
      cases hg
      obtain ⟨a, us, e, h1, _, h2⟩ := hx.lst_inv
      exact ⟨v, xs.length, rfl, by rw [e]; exact .inl ⟨us, .of h1, h2.length.symm⟩, q _ H (Ext.refl H) (.int _)⟩
    | tuple xs =>
      cases hg
      obtain ⟨a, us, e, h1, _, h2⟩ := hx.tup_inv
      exact ⟨v, xs.length, rfl, by rw [e]; exact .inr ⟨us, h1.seq, h2.length.symm⟩, q _ H (Ext.refl H) (.int _)⟩
    | _ => cases hg
  | [], hg => cases hg
  | a :: b :: t, hg => cases a <;> cases hg

/-! ### abs, max, min of two ints, int(..) -/
def dAbs : List PyData → Option PyData
  | [.int i] => some (.int (if i < 0 then -i else i))
  | _ => none
theorem fn_abs {r : Strg} : Fn β r (fun xs H Q => ∃ i, xs = [.int i] ∧ Q (.int (if i < 0 then -i else i)) H) dAbs := by
  intro F H Ω σ S w vs ds d Q R hv hg q
  match ds, hg with
  | [.int i], hg =>
    cases hg
    obtain ⟨v, rfl, hx⟩ := hv.one
    exact ⟨i, by rw [hx.int_inv], q _ H (Ext.refl H) (.int _)⟩
def dMax2 : List PyData → Option PyData
  | [.int i, .int j] => some (.int (if j > i then j else i))
  | _ => none
def dMin2 : List PyData → Option PyData
  | [.int i, .int j] => some (.int (if j < i then j else i))
  | _ => none
theorem fn_max2 {r : Strg} : Fn β r (fun xs H Q => ∃ i j, xs = [.int i, .int j] ∧ Q (.int (if j > i then j else i)) H) dMax2 := by
  intro F H Ω σ S w vs ds d Q R hv hg q
  match ds, hg with
  | [.int i, .int j], hg =>
    cases hg
    obtain ⟨v, u, rfl, hx, hy⟩ := hv.two
    exact ⟨i, j, by rw [hx.int_inv, hy.int_inv], q _ H (Ext.refl H) (.int _)⟩
theorem fn_min2 {r : Strg} : Fn β r (fun xs H Q => ∃ i j, xs = [.int i, .int j] ∧ Q (.int (if j < i then j else i)) H) dMin2 := by
  intro F H Ω σ S w vs ds d Q R hv hg q
  match ds, hg with
  | [.int i, .int j], hg =>
    cases hg
    obtain ⟨v, u, rfl, hx, hy⟩ := hv.two
    exact ⟨i, j, by rw [hx.int_inv, hy.int_inv], q _ H (Ext.refl H) (.int _)⟩
def dInt : List PyData → Option PyData
  | [.int i] => some (.int i)
  | _ => none
theorem fn_int {r : Strg} : Fn β r (fun xs H Q => (∃ i, xs = [.int i] ∧ Q (.int i) H) ∨ ∃ k, xs = [.bl k] ∧ Q (.int (if k then 1 else 0)) H) dInt := by
  intro F H Ω σ S w vs ds d Q R hv hg q
  match ds, hg with
  | [.int i], hg =>
    cases hg
    obtain ⟨v, rfl, hx⟩ := hv.one
    exact .inl ⟨i, by rw [hx.int_inv], q _ H (Ext.refl H) (.int _)⟩

/-! ### isinstance -/
def tyName : PyData → Option String
  | .none => some "NoneType"
  | .bool _ => some "bool"
  | .int _ => some "int"
  | .str _ => some "str"
  | .list _ => some "list"
  | .tuple _ => some "tuple"
  | .dict _ => none
def dIsi (b : String) : List PyData → Option PyData
  | [d] => (tyName d).bind fun a => (kitB a b).map fun k => .bool k
  | _ => none
theorem dx_ty {K : PySem.W.Frag} {r : Strg} {β : Bool} {F : Fx β} {Ω : AS} {H : Hp} {v : V} {d : PyData} {a : String} (h : Dx r F Ω H v d) (e : tyName d = some a) : TyX K H v (.type a) := by
  cases d with
  | none => cases e; rw [h.non_inv]; exact .base .non
  | bool b => cases e; rw [h.bl_inv]; exact .base (.bl b)
  | int i => cases e; rw [h.int_inv]; exact .base (.int i)
  | str x => cases e; rw [h.str_inv]; exact .base (.str x)
  | list xs =>
    cases e
    obtain ⟨p, us, rfl, h1, _⟩ := h.lst_inv
    exact .base (.lst h1)
  | tuple xs =>
    cases e
    obtain ⟨p, us, rfl, h1, _⟩ := h.tup_inv
    rcases h1.rd with h1 | ⟨o, h1⟩
    · exact .base (.tup h1)
    · exact .fTuple h1
  | dict ps => cases e
/-- isinstance(x, T), T a built-in class -/
def rIsiB (K : PySem.W.Frag) (b : String) : List V → Hp → VK → Prop := fun xs H Q => ∃ (x : V) (a : String) (k : Bool), xs = [x, .ty b] ∧ TyX K H x (.type a) ∧ kitB a b = some k ∧ Q (.bl k) H
theorem call_isiB {X : Cx} {b : String} : CallR X (.builtin "isinstance") (rIsiB X.K b) := by
  intro pins s σ H xs us Q I r ⟨x, a, k, ex, ty, hk, q⟩
  exact call_isi pins s σ H xs us Q I r ⟨x, .ty b, .type a, .type b, k, ex, .ty b, ty, kit_ty hk, q⟩
def mIsi (b : String) (ma : ME) : ME := fun S w => (ma S w).bind fun p => (dIsi b [p.1]).map fun d => (d, p.2)
theorem de_isi {X : Cx} {x t : Str} {b : String} {r : Strg} {e : Expr} {ma : ME} {p p2 pos : Pos} (hg : Gl X x) (hm : X.mg x = none) (hv : bootBuiltins x = some (.builtin "isinstance")) (hg2 : Gl X t) (hm2 : X.mg t = none) (hv2 : bootBuiltins t = some (.type b)) (ha : DE β r X e ma)
    (hn : x ≠ "__name__" := by decide) (hdb : (x == ("__debug__" : Str)) = false := by decide) (hn2 : t ≠ "__name__" := by decide) (hdb2 : (t == ("__debug__" : Str)) = false := by decide)
    (hs : starEach (e :: [.Name t p2]) X.env = (false, eval e X.env) :: starEach [.Name t p2] X.env := by rfl) :
    DE β .esc X (.Call (.Name x p) [e, .Name t p2] [] pos) (mIsi b ma) := by
  have hb : PE X (.Name t p2) (tC (.ty b)) := pe_bltn (v := .ty b) hg2 hm2 hv2 rfl hn2 hdb2
  refine pe_imp (pe_callB (call_isiB (b := b)) hg hm hv (pa_cons ha (pa_cons hb pa_nil (by rfl)) hs) hn hdb hs (by rfl)) fun σ H Q ⟨F, Ω, S, w, w', d, R, hm, q⟩ => ?_
  unfold mIsi at hm
  obtain ⟨⟨dx, w1⟩, h1, hm⟩ := Option.bind_eq_some_iff.mp hm
  obtain ⟨d', h2, hm⟩ := Option.map_eq_some_iff.mp hm
  cases hm
  obtain ⟨a, h3, h4⟩ := Option.bind_eq_some_iff.mp (show ((tyName dx).bind fun a => (kitB a b).map fun k => PyData.bool k) = some d from h2)
  obtain ⟨k, h5, rfl⟩ := Option.map_eq_some_iff.mp h4
  exact ⟨F, Ω, S, w, _, dx, R, h1, fun v H1 R1 e1 hx => ⟨v, a, k, rfl, dx_ty hx h3, h5, q _ H1 R1 e1 (.bl k)⟩⟩

/-! ### tuple(..), list(..) -/
def dTuple : List PyData → Option PyData
  | [.list xs] => some (.tuple xs)
  | [.tuple xs] => some (.tuple xs)
  | _ => none
def rTupB (β : Bool) (K : PySem.W.Frag) : List V → Hp → VK → Prop := fun xs H Q => ∃ p ys, xs = [.ref p] ∧ ((SqL K H p ys ∧ MkTup β H ys Q) ∨ (SqT K H p ys ∧ Q (.ref p) H))
theorem call_tupB {X : Cx} : ∀ β, CallR X (.type "tuple") (rTupB β X.K)
  | false => fun pins s σ H xs us Q I r h => call_tuple_of pins s σ H xs us Q I r h
  | true => by
    intro pins s σ H xs us Q I r ⟨p, ys, ex, h⟩
    rcases h with ⟨hq, q⟩ | ⟨hq, q⟩
    · subst ex
      obtain ⟨u, rfl, rx⟩ := vals1 r
      cases rx
      obtain ⟨its, r', pl, hz⟩ := I.list hq
      have hlen := r'.length
      refine call_tuple_list pl.isList (fun h' kp => ?_) (by simp only [List.size_toArray] <;> omega)
      have I1 : Inv X pins σ H { s with heap := h' } := I.kept (t' := s.toks) kp
      exact ⟨.ref h'.objs.size, _, I1.laid (t' := s.toks) (o := .frz _ (.tup ys)) (fun b o e => Heap.get?_push_of_some _ e) (Nat.le_refl _) (obj_tup hz r' (Heap.get?_push_size _ rfl)), rfl, q _ _ (I1.hok.fresh (Nat.le_refl _)) rfl⟩
    · exact call_tuple_of pins s σ H xs us Q I r ⟨p, ys, ex, .inr ⟨hq, q⟩⟩
theorem fn_tuple {K : PySem.W.Frag} {r : Strg} {β : Bool} : Fn β r (rTupB β K) dTuple := by
  intro F H Ω σ S w vs ds d Q R hv hg q
  match ds, hg with
  | [.list xs], hg =>
    cases hg
    obtain ⟨v, rfl, hx⟩ := hv.one
    obtain ⟨a, us, e, h1, h2, h3⟩ := hx.lst_inv
    exact ⟨a, us, by rw [e], .inl ⟨.of h1, new_tup R h3 (by rw [← h3.length]; exact h2) q⟩⟩
  | [.tuple xs], hg =>
    cases hg
    obtain ⟨v, rfl, hx⟩ := hv.one
    obtain ⟨a, us, e, h1, h2, h3⟩ := hx.tup_inv
    exact ⟨a, us, by rw [e], .inr ⟨h1.seq, q (.ref a) H (Ext.refl H) (e ▸ hx.flat rfl)⟩⟩
def dList : List PyData → Option PyData
  | [d] => (seqOf d).map .list
  | _ => none
theorem fn_list {K : PySem.W.Frag} {r : Strg} : Fn β r (fun xs H Q => ∃ p ys, xs = [.ref p] ∧ (SqL K H p ys ∨ SqT K H p ys) ∧ ∀ l, H l = none → Q (.ref l) (upd H l (.lst ys))) dList := by
  intro F H Ω σ S w vs ds d Q R hv hg q
  match ds, hg with
  | [e], hg =>
    obtain ⟨xs, h1, rfl⟩ := Option.map_eq_some_iff.mp hg
    obtain ⟨v, rfl, hx⟩ := hv.one
    obtain ⟨a, us, ev, h2, h3, h4⟩ := hx.seq_inv (K := K) (seqOf_inv h1)
    refine ⟨a, us, by rw [ev], h2, fun p hp => ?_⟩
    obtain ⟨e1, hd⟩ := new_lst R h4 (by rw [← h4.length]; exact h3) hp
    exact q _ _ e1 hd

/-! ### sum, all, any -/
def intsOf : List PyData → Option (List Int)
  | [] => some []
  | .int i :: r => (intsOf r).map (i :: ·)
  | _ => none
theorem intsOf_inv : ∀ {ds : List PyData} {ns : List Int}, intsOf ds = some ns → ds = ns.map .int
  | [], ns, h => by cases h; rfl
  | .int i :: r, ns, h => by
    obtain ⟨ms, h1, rfl⟩ := Option.map_eq_some_iff.mp (show (intsOf r).map (i :: ·) = some ns from h)
    rw [intsOf_inv h1]
    rfl
  | .none :: _, _, h => nomatch h
  | .bool _ :: _, _, h => nomatch h
  | .str _ :: _, _, h => nomatch h
  | .list _ :: _, _, h => nomatch h
  | .tuple _ :: _, _, h => nomatch h
  | .dict _ :: _, _, h => nomatch h
theorem intsOf_map : ∀ ns : List Int, intsOf (ns.map .int) = some ns
  | [] => rfl
  | n :: ns => by
    show (intsOf (ns.map .int)).map (n :: ·) = _
    rw [intsOf_map ns]
    rfl
def bolsOf : List PyData → Option (List Bool)
  | [] => some []
  | .bool i :: r => (bolsOf r).map (i :: ·)
  | _ => none
theorem bolsOf_inv : ∀ {ds : List PyData} {ns : List Bool}, bolsOf ds = some ns → ds = ns.map .bool
  | [], ns, h => by cases h; rfl
  | .bool i :: r, ns, h => by
    obtain ⟨ms, h1, rfl⟩ := Option.map_eq_some_iff.mp (show (bolsOf r).map (i :: ·) = some ns from h)
    rw [bolsOf_inv h1]
    rfl
  | .none :: _, _, h => nomatch h
  | .int _ :: _, _, h => nomatch h
  | .str _ :: _, _, h => nomatch h
  | .list _ :: _, _, h => nomatch h
  | .tuple _ :: _, _, h => nomatch h
  | .dict _ :: _, _, h => nomatch h
theorem bolsOf_map : ∀ ns : List Bool, bolsOf (ns.map .bool) = some ns
  | [] => rfl
  | n :: ns => by
    show (bolsOf (ns.map .bool)).map (n :: ·) = _
    rw [bolsOf_map ns]
    rfl
def dSum : List PyData → Option PyData
  | [d] => (seqOf d).bind fun xs => (intsOf xs).map fun ns => .int ns.sum
  | _ => none
def rSumX (K : PySem.W.Frag) : List V → Hp → VK → Prop := fun vs H Q => ∃ (a : Addr) (ns : List Int), vs = [V.ref a] ∧ (SqL K H a (ns.map V.int) ∨ SqT K H a (ns.map V.int)) ∧ Q (.int ns.sum) H
theorem presum_ints {its : List Value} {ns : List Int} (hi : IntsAre its ns) : preSum (fun i => ns.getD i 0) its.toArray.size = ns.sum := by
  have hl : its.length = ns.length := hi.length.symm ▸ rfl
  rw [List.size_toArray, hl]
  have key : ∀ k, k ≤ ns.length → preSum (fun i => ns.getD i 0) k = (ns.take k).sum := fun k => by
    induction k with
    | zero => intro _; rfl
    | succ k ih =>
      intro hk
      show preSum _ k + ns.getD k 0 = _
      rw [ih (by omega), List.take_add_one, List.sum_append]
      have e : ns[k]? = some ns[k] := List.getElem?_eq_getElem (by omega)
      rw [List.getD_eq_getElem?_getD, e]
      simp
  rw [key _ (Nat.le_refl _), List.take_of_length_le (Nat.le_refl _)]
theorem call_sumX {X : Cx} (hc : X.calm = true) : CallR X (.builtin "sum") (rSumX X.K) := by
  intro pins s σ H vs us Q I r ⟨a, ns, ex, hs, q⟩
  rcases hs with hs | hs
  · exact cr_sum hc pins s σ H vs us Q I r ⟨a, ns, ex, hs, q⟩
  · subst ex
    rw [Vals.ref1 r]
    obtain ⟨its, rv, ht, hz⟩ := I.tuple hs
    have hi := rv.ints
    refine PySem.call_sum_walkAnyS (PySem.W.iter_tupleW (A := X.A.in1) (I.ok.hd hc) (show s.heap.IsTuple a its.toArray from ht) fun s₂ e W st hfp hw hk => ?_)
    refine ⟨_, _, _, _, _, _, _, fun i => ns.getD i 0, rfl, W, st, hfp, fun i v hv => ?_, fun s' t' m => ?_⟩
    · have hv' : its[i]? = some v := by simpa using hv
      have hlt : i < ns.length := by
        have h1 := (List.getElem?_eq_some_iff.mp hv').1
        have h2 := rv.length
        rw [List.length_map] at h2
        omega
      obtain ⟨u, hu, ru⟩ := rv.get (i := i) (x := .int ns[i]) (by rw [List.getElem?_map, List.getElem?_eq_getElem hlt]; rfl)
      rw [hv'] at hu
      cases hu
      obtain ⟨t, rfl⟩ := ru
      refine ⟨t, ?_⟩
      show Value.int ns[i] t = Value.int (ns.getD i 0) t
      rw [List.getD_eq_getElem?_getD, List.getElem?_eq_getElem hlt]
      rfl
    · obtain ⟨h', tk, rfl, hk'⟩ := PySem.W.moved_old e rfl m
      rw [presum_ints hi]
      exact ⟨.int ns.sum, H, I.kept hk', ⟨t', rfl⟩, q⟩
theorem fn_sum {K : PySem.W.Frag} {r : Strg} : Fn β r (rSumX K) dSum := by
  intro F H Ω σ S w vs ds d Q R hv hg q
  match ds, hg with
  | [e], hg =>
    obtain ⟨xs, h1, h2⟩ := Option.bind_eq_some_iff.mp (show ((seqOf e).bind fun xs => (intsOf xs).map fun ns => PyData.int ns.sum) = some d from hg)
    obtain ⟨ns, h3, rfl⟩ := Option.map_eq_some_iff.mp h2
    obtain ⟨v, rfl, hx⟩ := hv.one
    obtain ⟨a, us, ev, h4, h5, h6⟩ := hx.seq_inv (K := K) (seqOf_inv h1)
    rw [intsOf_inv h3] at h6
    have e2 := h6.ints
    subst e2
    exact ⟨a, ns, by rw [ev], h4, q _ H (Ext.refl H) (.int _)⟩
def dAll : List PyData → Option PyData
  | [.list xs] => (bolsOf xs).map fun bs => .bool (bs.all id)
  | _ => none
def dAny : List PyData → Option PyData
  | [.list xs] => (bolsOf xs).map fun bs => .bool (bs.any id)
  | _ => none
theorem fn_all {K : PySem.W.Frag} {r : Strg} : Fn β r (rAll K) dAll := by
  intro F H Ω σ S w vs ds d Q R hv hg q
  match ds, hg with
  | [.list xs], hg =>
    obtain ⟨bs, h1, rfl⟩ := Option.map_eq_some_iff.mp (show (bolsOf xs).map (fun bs => PyData.bool (bs.all id)) = some d from hg)
    obtain ⟨v, rfl, hx⟩ := hv.one
    obtain ⟨a, us, ev, h4, h5, h6⟩ := hx.lst_inv
    rw [bolsOf_inv h1] at h6
    have e2 := h6.bls
    subst e2
    exact ⟨a, bs, by rw [ev], .of h4, q _ H (Ext.refl H) (.bl _)⟩
theorem fn_any {K : PySem.W.Frag} {r : Strg} : Fn β r (rAny K) dAny := by
  intro F H Ω σ S w vs ds d Q R hv hg q
  match ds, hg with
  | [.list xs], hg =>
    obtain ⟨bs, h1, rfl⟩ := Option.map_eq_some_iff.mp (show (bolsOf xs).map (fun bs => PyData.bool (bs.any id)) = some d from hg)
    obtain ⟨v, rfl, hx⟩ := hv.one
    obtain ⟨a, us, ev, h4, h5, h6⟩ := hx.lst_inv
    rw [bolsOf_inv h1] at h6
    have e2 := h6.bls
    subst e2
    exact ⟨a, bs, by rw [ev], .of h4, q _ H (Ext.refl H) (.bl _)⟩

/-! ### max, min of a list or tuple of alike data -/
open PySem.W in
def alikeB (xs : List PyData) : Bool := xs.all fun x => !isNone x && xs.all (alike x)
open PySem.W in
theorem alikeB_ok {xs : List PyData} (h : alikeB xs = true) : AlikeAll xs := by
  unfold alikeB at h
  refine ⟨fun x hx y hy => ?_, fun x hx => ?_⟩
  · have k := List.all_eq_true.mp h x hx
    rw [Bool.and_eq_true] at k
    exact List.all_eq_true.mp k.2 y hy
  · have k := List.all_eq_true.mp h x hx
    rw [Bool.and_eq_true] at k
    rintro rfl
    exact absurd k.1 (by decide)
open PySem.W in
def dBest (g : PyData → List PyData → PyData) : List PyData → Option PyData
  | [d] => (seqOf d).bind fun xs => match xs with
    | [] => none
    | y :: ys => if alikeB (y :: ys) = true ∧ (y :: ys).all (shp 8) = true then some (g y ys) else none
  | _ => none
/-- by the place of the best one -/
def rBest (K : PySem.W.Frag) (g : PyData → List PyData → PyData) : List V → Hp → VK → Prop := fun vs H Q => ∃ (a : Addr) (xs : List V) (y : PyData) (ys : List PyData), vs = [V.ref a] ∧ (SqL K H a xs ∨ SqT K H a xs) ∧ DpAll K H xs (y :: ys) ∧
  alikeB (y :: ys) = true ∧ (y :: ys).all (shp 8) = true ∧ ∀ (i : Nat) v, xs[i]? = some v → (y :: ys)[i]? = some (g y ys) → Q v H
open PySem.W in
theorem best_fin {X : Cx} {pins : List (Addr × Obj)} {σ : L2.St} {H : Hp} {s : Shared} {Q : VK} {xs : List V} {y m : PyData} {ys : List PyData} (I : Inv X pins σ H s) (hsh : (y :: ys).all (shp 8) = true) (q : ∀ (i : Nat) v, xs[i]? = some v → (y :: ys)[i]? = some m → Q v H)
    {its : List Value} {as : List Addr} (rv : Vals xs its) (hr : ReadsAll s.heap its (y :: ys) as) (i : Nat) (v : Value) (h' : Heap) (tk : Nat) (bs : List Addr) (hv : its.toArray[i]? = some v) (rd : Reads h' v m bs) (hk : ∀ b o, s.heap.get? b = some o → h'.get? b = some o) :
    EP X pins σ Q v { s with heap := h', toks := tk } := by
  have hv' : its[i]? = some v := by simpa using hv
  obtain ⟨cs, r1, hlt, hm, _⟩ := readsAll_at hr i v hv'
  have e1 : (y :: ys).getD i .none = m := SeqAt.plain_unique _ _ _ _ _ (plain_mem (shp_all hsh).1 hm) (reads_keeps hk r1) rd
  have hx : i < xs.length := by rw [rv.length]; exact (List.getElem?_eq_some_iff.mp hv').1
  obtain ⟨u, hu', ru⟩ := rv.get (List.getElem?_eq_getElem hx)
  rw [hv'] at hu'
  cases hu'
  refine ⟨xs[i], H, I.kept hk, ru, q i _ (List.getElem?_eq_getElem hx) ?_⟩
  rw [← e1, List.getD_eq_getElem?_getD, List.getElem?_eq_getElem hlt]
  rfl
open PySem.W in
theorem call_minX {X : Cx} (hc : X.calm = true) (hu : X.A.units + 64 < cLine) : CallR X (.builtin "min") (rBest X.K minD) := by
  intro pins s σ H vs us Q I r ⟨a, xs, y, ys, ex, hs, hp, ha, hsh, q⟩
  subst ex
  rw [Vals.ref1 r]
  have dl := (shp_all hsh).2
  rcases hs with hs | hs
  · obtain ⟨its, rv, hl, hz⟩ := I.list hs
    obtain ⟨as, hr⟩ := Dp.readsAll I (y :: ys) _ its hp rv
    exact min_list_data (I.ok.hd hc) hl.isList (show ReadsAll s.heap its.toArray.toList (y :: ys) as from hr) (alikeB_ok ha) (by omega) fun i v h' tk bs hv rd hk => best_fin I hsh q rv hr i v h' tk bs hv rd hk
  · obtain ⟨its, rv, hl, hz⟩ := I.tuple hs
    obtain ⟨as, hr⟩ := Dp.readsAll I (y :: ys) _ its hp rv
    exact min_tuple_data (I.ok.hd hc) (show s.heap.IsTuple a its.toArray from hl) (show ReadsAll s.heap its.toArray.toList (y :: ys) as from hr) (alikeB_ok ha) (by omega) fun i v h' tk bs hv rd hk => best_fin I hsh q rv hr i v h' tk bs hv rd hk
open PySem.W in
theorem call_maxX {X : Cx} (hc : X.calm = true) (hu : X.A.units + 64 < cLine) : CallR X (.builtin "max") (rBest X.K maxD) := by
  intro pins s σ H vs us Q I r ⟨a, xs, y, ys, ex, hs, hp, ha, hsh, q⟩
  subst ex
  rw [Vals.ref1 r]
  have dl := (shp_all hsh).2
  rcases hs with hs | hs
  · obtain ⟨its, rv, hl, hz⟩ := I.list hs
    obtain ⟨as, hr⟩ := Dp.readsAll I (y :: ys) _ its hp rv
    exact max_list_data (I.ok.hd hc) hl.isList (show ReadsAll s.heap its.toArray.toList (y :: ys) as from hr) (alikeB_ok ha) (by omega) fun i v h' tk bs hv rd hk => best_fin I hsh q rv hr i v h' tk bs hv rd hk
  · obtain ⟨its, rv, hl, hz⟩ := I.tuple hs
    obtain ⟨as, hr⟩ := Dp.readsAll I (y :: ys) _ its hp rv
    exact max_tuple_data (I.ok.hd hc) (show s.heap.IsTuple a its.toArray from hl) (show ReadsAll s.heap its.toArray.toList (y :: ys) as from hr) (alikeB_ok ha) (by omega) fun i v h' tk bs hv rd hk => best_fin I hsh q rv hr i v h' tk bs hv rd hk
theorem fn_best {K : PySem.W.Frag} {r : Strg} {g : PyData → List PyData → PyData} : Fn β r (rBest K g) (dBest g) := by
  intro F H Ω σ S w vs ds d Q R hv hg q
  match ds, hg with
  | [e], hg =>
    obtain ⟨xs, h1, h2⟩ := Option.bind_eq_some_iff.mp hg
    cases xs with
    | nil => cases h2
    | cons y ys =>
      obtain ⟨⟨h3, h4⟩, rfl⟩ := ite_some h2
      obtain ⟨v, rfl, hx⟩ := hv.one
      obtain ⟨a, us, ev, h5, h6, h7⟩ := hx.seq_inv (K := K) (seqOf_inv h1)
      refine ⟨a, us, y, ys, by rw [ev], h5, DvA.dp h4 h7, h3, h4, fun i v hi hd => ?_⟩
      obtain ⟨d', e', dv⟩ := h7.get' hi
      rw [hd] at e'
      cases e'
      exact q v H (Ext.refl H) dv
/-! ### sorted of ints -/
def leB (a b : Int) : Bool := decide (a ≤ b)
def srtI (ns : List Int) : List Int := ns.mergeSort leB
theorem srtI_perm (ns : List Int) : (srtI ns).Perm ns := List.mergeSort_perm ns leB
theorem srtI_le (ns : List Int) : (srtI ns).Pairwise (· ≤ ·) := by
  have h := List.pairwise_mergeSort (le := leB) (fun a b c h1 h2 => by
    have a1 := of_decide_eq_true (p := a ≤ b) h1
    have a2 := of_decide_eq_true (p := b ≤ c) h2
    exact decide_eq_true (p := a ≤ c) (by omega)) (fun a b => by
    unfold leB
    rw [Bool.or_eq_true, decide_eq_true_eq, decide_eq_true_eq]
    omega) ns
  exact h.imp fun h => of_decide_eq_true h
theorem srt_one : ∀ {xs ys : List Int}, xs.Perm ys → xs.Pairwise (· ≤ ·) → ys.Pairwise (· ≤ ·) → xs = ys
  | [], ys, p, _, _ => by rw [List.Perm.nil_eq p]
  | x :: xs, [], p, _, _ => by have := p.length_eq; cases this
  | x :: xs, y :: ys, p, hx, hy => by
    have e : x = y := by
      have h1 : x ∈ y :: ys := p.mem_iff.mp List.mem_cons_self
      have h2 : y ∈ x :: xs := p.mem_iff.mpr List.mem_cons_self
      rcases List.mem_cons.mp h1 with e | h1
      · exact e
      · rcases List.mem_cons.mp h2 with e | h2
        · exact e.symm
        · have a := (List.pairwise_cons.mp hy).1 x h1
          have b := (List.pairwise_cons.mp hx).1 y h2
          omega
    subst e
    rw [srt_one (List.Perm.cons_inv p) (List.pairwise_cons.mp hx).2 (List.pairwise_cons.mp hy).2]
def dSortI : List PyData → Option PyData
  | [.list xs] => (intsOf xs).map fun ns => .list ((srtI ns).map .int)
  | _ => none
theorem fn_sortI {K : PySem.W.Frag} {r : Strg} : Fn β r (rSortedI K) dSortI := by
  intro F H Ω σ S w vs ds d Q R hv hg q
  match ds, hg with
  | [.list xs], hg =>
    obtain ⟨ns, h1, rfl⟩ := Option.map_eq_some_iff.mp (show (intsOf xs).map (fun ns => PyData.list ((srtI ns).map .int)) = some d from hg)
    obtain ⟨v, rfl, hx⟩ := hv.one
    obtain ⟨a, us, ev, h4, h5, h6⟩ := hx.lst_inv
    rw [intsOf_inv h1] at h6
    have e2 := h6.ints
    subst e2
    refine ⟨a, ns, by rw [ev], .of h4, fun ns' p hp hs hn => ?_⟩
    have e3 : ns' = srtI ns := srt_one (hp.trans (srtI_perm ns).symm) hs (srtI_le ns)
    subst e3
    obtain ⟨e1, hd⟩ := new_lst R (DvA.ofInts (srtI ns)) (by rw [List.length_map, (srtI_perm ns).length_eq]; rw [List.length_map] at h5; exact h5) hn
    exact q _ _ e1 hd

/-! ### t.count(x), t a tuple known to its object -/
def dCount : PyData → PyData → Option PyData
  | .tuple xs, d => if xs.all (shp 8) = true ∧ shp 8 d = true then some (.int ((xs.countP fun y => PyData.eqv y d : Nat) : Int)) else none
  | _, _ => none
/-- the value's type, by a tuple's known object -/
def tyT (x : V) (H : Hp) : Prop := ∃ (p : Addr) (o : Obj) (xs : List V), x = .ref p ∧ H p = some (.frz o (.tup xs)) ∧ o.dict = none
theorem tyT_is {X : Cx} {pins : List (Addr × Obj)} {σ : L2.St} {H : Hp} {s : Shared} {x : V} {v : Value} (I : Inv X pins σ H s) (r : RelV x v) (ty : tyT x H) : s.TypeIs v "tuple" ∧ ∀ a, v = .ref a → ∃ ob, s.heap.get? a = some ob ∧ ob.dict = none := by
  obtain ⟨p, o, xs, rfl, hp, hd⟩ := ty
  cases r
  obtain ⟨e, _, _, _, o2, h1, h2, _⟩ := (show ObjOk X.prog X.w H s.heap p (.frz o (.tup xs)) from I.hok p _ hp)
  refine ⟨⟨o2, h1, h2⟩, fun a q => ?_⟩
  cases q
  exact ⟨o, e, hd⟩
/-- a method of such a tuple -/
def tTM (rl : V → List V → Hp → VK → Prop) (to : TE) (ta : TA) : TE := fun σ H Q => to σ H fun x H1 => tyT x H1 ∧ ta σ H1 fun ys H2 => rl x ys H2 Q
theorem pe_tm {X : Cx} {o e : Expr} {es : List Expr} {to : TE} {ta : TA} {name : Str} {id : String} {apos cpos : Pos} {rl : V → List V → Hp → VK → Prop} (slot : Slot "tuple" name id) (hty : typeOf (.builtin id) = pure (.type "method_descriptor")) (hm : MtR X id rl) (ho : PE X o to) (ha : PA X (e :: es) ta)
    (hbase : attributeBase o name X.env (eval o X.env) = eval o X.env := by rfl)
    (hfew : ((backTo cpos (starEach (e :: es) X.env)).all (fun x => !x.1) && (backToKw cpos (keywordEach [] X.env)).all (fun x => x.1.isSome) && decide ((e :: es).length + ([] : List Keyword).length + (if ([] : List Keyword).isEmpty then 0 else 1) < 30)) = true := by rfl)
    (hline : (apos.endLine == cpos.line) = true := by rfl) (hs : starEach (e :: es) X.env = (false, eval e X.env) :: starEach es X.env := by rfl) (hplain : (backTo cpos (starEach es X.env)).any (·.1) = false := by rfl) : PE X (.Call (.Attribute o name apos) (e :: es) [] cpos) (tTM rl to ta) := by
  refine ⟨fun pins s σ H Q I h => wpAny_Call_method_late hbase hfew hline rfl (thn (ho.run pins s σ H _ I h) fun v s1 ⟨x, H1, I1, r1, ty, q1⟩ => ?_)⟩
  obtain ⟨h1, h2⟩ := tyT_is I1 r1 ty
  have hA := ha.run cpos pins s1 σ H1 _ I1 q1
  rw [hs] at hA ⊢
  exact ⟨"tuple", id, PySem.F.plainAttrs_tuple, slot, hty, h1, h2, Calls.callWith_builtin (show (false || (backTo cpos (starEach es X.env)).any (·.1)) = false by rw [hplain] <;> rfl)
    (Calls.evalArgs_plain (thn hA fun us s2 ⟨vs, H2, I2, r2, q2⟩ => hm pins s2 σ H2 x vs v us Q I2 r1 r2 q2))⟩
def rCountD (K : PySem.W.Frag) : V → List V → Hp → VK → Prop := fun x ys H Q => ∃ (a : Addr) (xs : List V) (y : V) (ds : List PyData) (d : PyData), x = .ref a ∧ ys = [y] ∧ SqT K H a xs ∧ DpAll K H xs ds ∧ Dp K H y d ∧ ds.all (shp 8) = true ∧ shp 8 d = true ∧ Q (.int ((ds.countP fun z => PyData.eqv z d : Nat) : Int)) H
open PySem.W in
theorem mt_countT {X : Cx} (hu : X.A.units + 64 < cLine) : MtR X "tuple.count" (rCountD X.K) := by
  intro pins s σ H x ys v us Q I rx rys ⟨a, xs, y, ds, d, ex, ey, hs, hp, hd, s1, s2, q⟩
  subst ex; subst ey
  cases rx
  obtain ⟨u, rfl, ru⟩ := vals1 rys
  obtain ⟨its, rv, ht, hz⟩ := I.tuple hs
  obtain ⟨as, hr⟩ := Dp.readsAll I ds _ its hp rv
  obtain ⟨bs, hx⟩ := Dp.reads I d y u hd ru
  obtain ⟨p1, z1⟩ := shp_all s1
  obtain ⟨p2, z2⟩ := shp_plain 8 d s2
  exact PySem.SeqAt.count_tuple_data (show s.heap.IsTuple a its.toArray from ht) (show ReadsAll s.heap its.toArray.toList ds as from hr) hx p1 p2 (by omega) ⟨.int _, H, I.tok _, ⟨_, rfl⟩, q⟩
def mCount (mo me : ME) : ME := m2 dCount mo me
/-- in a def whose tuples are known to their objects -/
theorem de_count {X : Cx} {o e : Expr} {mo me : ME} {ro re : Strg} {apos cpos : Pos} (hu : X.A.units + 64 < cLine) (ho : DE true ro X o mo) (he : DE true re X e me)
    (hbase : attributeBase o "count" X.env (eval o X.env) = eval o X.env := by rfl)
    (hfew : ((backTo cpos (starEach [e] X.env)).all (fun x => !x.1) && (backToKw cpos (keywordEach [] X.env)).all (fun x => x.1.isSome) && decide ([e].length + ([] : List Keyword).length + (if ([] : List Keyword).isEmpty then 0 else 1) < 30)) = true := by rfl)
    (hline : (apos.endLine == cpos.line) = true := by rfl) (hs : starEach [e] X.env = (false, eval e X.env) :: starEach [] X.env := by rfl) :
    DE true .esc X (.Call (.Attribute o "count" apos) [e] [] cpos) (mCount mo me) := by
  refine pe_imp (pe_tm PySem.F.slot_tuple_count PySem.F.type_tuple_count (mt_countT hu) ho (da_cons he da_nil hs) hbase hfew hline hs (by rfl)) fun σ H Q ⟨F, Ω, S, w, w', d, R, hm, q⟩ => ?_
  unfold mCount m2 at hm
  obtain ⟨⟨dx, w1⟩, h1, hm⟩ := Option.bind_eq_some_iff.mp hm
  obtain ⟨⟨dy, w2⟩, h2, hm⟩ := Option.bind_eq_some_iff.mp hm
  obtain ⟨d', h3, hm⟩ := Option.map_eq_some_iff.mp hm
  cases hm
  cases dx with
  | tuple xs =>
    obtain ⟨⟨h4, h5⟩, rfl⟩ := ite_some h3
    refine ⟨F, Ω, S, w, w1, .tuple xs, R, h1, fun x H1 R1 e1 hx => ?_⟩
    obtain ⟨a, vs, ex, t1, t2, t3⟩ := hx.tup_inv
    refine ⟨?_, F, Ω, S, w1, w2, [dy], R1, by unfold mCons mNil; rw [h2]; rfl, fun ys H2 R2 e2 hy => ?_⟩
    · obtain ⟨o, t1, t4⟩ := t1
      exact ⟨a, o, vs, ex, t1, t4⟩
    · obtain ⟨y, rfl, hy1⟩ := hy.one
      have hx2 := (hx.flat rfl).grow (R1.grow e2)
      obtain ⟨a2, vs2, ex2, t5, t6, t7, t8⟩ := hx2.tup_inv
      exact ⟨a2, vs2, y, xs, dy, ex2, rfl, t5.seq, DvA.dp h4 t8, hy1.dp h5, h4, h5, q _ H2 R2 (e1.trans e2) (Dv.int _)⟩
  | _ => cases h3
end Mini

set_option Elab.async false
set_option linter.all false
set_option maxRecDepth 100000
set_option maxHeartbeats 4000000
/-! Mini E: what is walked, targets, comprehensions. -/
namespace Mini
open PySem PySem.Spec PyProof.Rows L2

/-! ### items -/
/-- a value; or (z) a tuple that is only taken apart -/
def Item {β : Bool} (z : Bool) (F : Fx β) (Ω : AS) (H : Hp) (x : V) (d : PyData) : Prop := match z with
  | false => Dv β Ω H x d
  | true => ∃ (a : Addr) (xs : List V) (ds : List PyData), x = .ref a ∧ Rd H a (.tup xs) ∧ DvA β Ω H xs ds ∧ d = .tuple ds
def Stay {β : Bool} (r : Strg) (F : Fx β) (Ω : AS) (H : Hp) (Ω' : AS) (H' : Hp) : Prop := Grow Ω H Ω' H' ∧ (r = .top → Evs F.st H H')
structure Walk {β : Bool} (z : Bool) (r : Strg) (F : Fx β) (Ω : AS) (J : It) (H : Hp) (ds : List PyData) : Prop where
  stop : ∀ Ω' H' i, Stay r F Ω H Ω' H' → ds.length ≤ i → J.stop i H'
  go : ∀ Ω' H' i, Stay r F Ω H Ω' H' → i < ds.length → J.go i H'
  yld : ∀ Ω' H' i x H'' d, Stay r F Ω H Ω' H' → ds[i]? = some d → J.yld i H' x H'' → Ext H' H'' ∧ Item z F Ω' H'' x d
theorem Walk.top {β : Bool} {z : Bool} {r : Strg} {F : Fx β} {Ω : AS} {J : It} {H : Hp} {ds : List PyData} (h : Walk z r F Ω J H ds) : Walk z .top F Ω J H ds := by
  have k : ∀ {Ω' H'}, Stay .top F Ω H Ω' H' → Stay r F Ω H Ω' H' := fun s => ⟨s.1, fun _ => s.2 rfl⟩
  exact ⟨fun Ω' H' i s => h.stop Ω' H' i (k s), fun Ω' H' i s => h.go Ω' H' i (k s), fun Ω' H' i x H'' d s => h.yld Ω' H' i x H'' d (k s)⟩
theorem Dx.stay {β : Bool} {r : Strg} {F : Fx β} {Ω Ω' : AS} {H H' : Hp} {σ : L2.St} {S : SEnv} {w : Drw} {v : V} {d : PyData} (R : Rel F H Ω σ S w) (s : Stay r F Ω H Ω' H') (h : Dx r F Ω H v d) : Dx r F Ω' H' v d := by
  cases r with
  | esc => exact Dv.grow s.1 h
  | top =>
    rcases h with h | ⟨a, q, h0, h⟩
    · exact .inl (h.grow s.1)
    · obtain ⟨o, hO⟩ := h.some
      exact .inr ⟨a, q, h0, h.grow s.1 ((s.2 rfl a o hO fun z => R.old a (R.stΨ z).1 h0).trans hO.symm)⟩
def tIt (β : Bool) (z : Bool) (r : Strg) (m : MA) : TI := fun σ H R => ∃ (F : Fx β) (Ω : AS) (S : SEnv) (w w' : Drw) (ds : List PyData),
  Rel F H Ω σ S w ∧ m S w = some (ds, w') ∧ ∀ J H1, Rel F H1 Ω σ S w' → Evs F.st H H1 → Walk z r F Ω J H1 ds → R J H1
def DI (β : Bool) (z : Bool) (r : Strg) (X : Cx) (tg iter : Expr) (m : MA) : Prop := PI X tg iter (tIt β z r m)
theorem pi_imp {X : Cx} {tg iter : Expr} {t t' : TI} (h : PI X tg iter t) (k : ∀ σ H R, t' σ H R → t σ H R) : PI X tg iter t' := ⟨fun pins s σ H R I hw => h.run pins s σ H R I (k σ H R hw)⟩
theorem pi_or {X : Cx} {tg iter : Expr} {t t' : TI} (h : PI X tg iter t) (h' : PI X tg iter t') : PI X tg iter fun σ H R => t σ H R ∨ t' σ H R :=
  ⟨fun pins s σ H R I hw => hw.elim (h.run pins s σ H R I) (h'.run pins s σ H R I)⟩
theorem pg_imp {X : Cx} {tg : Expr} {t t' : TG} (h : PG X tg t) (k : ∀ v σ H R, t' v σ H R → t v σ H R) : PG X tg t' := ⟨fun pins s σ H v u R I r hw => h.run pins s σ H v u R I r (k v σ H R hw)⟩
theorem pgs_imp {X : Cx} {tg : List Expr} {t t' : TGs} (h : PGs X tg t) (k : ∀ v σ H R, t' v σ H R → t v σ H R) : PGs X tg t' := ⟨fun pins s σ H v u R I r hw => h.run pins s σ H v u R I r (k v σ H R hw)⟩

section
variable {β : Bool} {X : Cx} {e a b c tg : Expr} {es : List Expr} {pos p pt : Pos} {r : Strg} {z : Bool} {m ma : ME} {mr : MA}
theorem di_top {mi : MA} (h : DI β z .esc X tg e mi) : DI β z .top X tg e mi := pi_imp h fun σ H R ⟨F, Ω, S, w, w', ds, Rl, hm, q⟩ => ⟨F, Ω, S, w, w', ds, Rl, hm, fun J H1 R1 e1 wk => q J H1 R1 e1 wk.top⟩

/-! ### a list, a tuple -/
def mItems (m : ME) : MA := fun S w => (m S w).bind fun p => (seqOf p.1).map fun xs => (xs, p.2)
theorem walk_lst {F : Fx β} {Ω : AS} {H : Hp} {σ : L2.St} {S : SEnv} {w : Drw} {K : PySem.W.Frag} {v : V} {ds : List PyData} (R : Rel F H Ω σ S w) (h : Dx r F Ω H v (.list ds)) :
    ∃ a xs, v = .ref a ∧ SqL K H a xs ∧ Walk false r F Ω (Itl K a) H ds := by
  obtain ⟨a, vs, rfl, h1, h2, h3⟩ := h.lst_inv
  have st : ∀ Ω' H', Stay r F Ω H Ω' H' → ∃ vs', SqL K H' a vs' ∧ DvA β Ω' H' vs' ds := fun Ω' H' s => by
    obtain ⟨a', vs', e, k1, k2, k3⟩ := (h.stay R s).lst_inv
    cases e
    exact ⟨vs', .of k1, k3⟩
  refine ⟨a, vs, rfl, .of h1, ⟨fun Ω' H' i s hi => ?_, fun Ω' H' i s hi => ?_, fun Ω' H' i x H'' d s hd y => ?_⟩⟩
  · obtain ⟨vs', k1, k2⟩ := st Ω' H' s
    exact ⟨vs', k1, by rw [k2.length]; exact hi⟩
  · obtain ⟨vs', k1, k2⟩ := st Ω' H' s
    have hi' : i < vs'.length := by rw [k2.length]; exact hi
    exact ⟨vs', vs'[i], k1, List.getElem?_eq_getElem hi'⟩
  · obtain ⟨vs', k1, k2⟩ := st Ω' H' s
    obtain ⟨rfl, y⟩ := y
    obtain ⟨v, hv, dv⟩ := k2.get hd
    have := y vs' k1
    rw [hv] at this
    cases this
    exact ⟨Ext.refl _, dv⟩
theorem walk_tup {F : Fx β} {Ω : AS} {H : Hp} {σ : L2.St} {S : SEnv} {w : Drw} {K : PySem.W.Frag} {v : V} {ds : List PyData} (R : Rel F H Ω σ S w) (h : Dx r F Ω H v (.tuple ds)) :
    ∃ a xs, v = .ref a ∧ SqT K H a xs ∧ Walk false r F Ω (Itt K a) H ds := by
  obtain ⟨a, vs, rfl, h1, h2, h3⟩ := h.tup_inv
  have st : ∀ Ω' H', Stay r F Ω H Ω' H' → ∃ vs', SqT K H' a vs' ∧ DvA β Ω' H' vs' ds := fun Ω' H' s => by
    obtain ⟨a', vs', e, k1, k2, k3⟩ := (h.stay R s).tup_inv
    cases e
    exact ⟨vs', k1.seq, k3⟩
  refine ⟨a, vs, rfl, h1.seq, ⟨fun Ω' H' i s hi => ?_, fun Ω' H' i s hi => ?_, fun Ω' H' i x H'' d s hd y => ?_⟩⟩
  · obtain ⟨vs', k1, k2⟩ := st Ω' H' s
    exact ⟨vs', k1, by rw [k2.length]; exact hi⟩
  · obtain ⟨vs', k1, k2⟩ := st Ω' H' s
    have hi' : i < vs'.length := by rw [k2.length]; exact hi
    exact ⟨vs', vs'[i], k1, List.getElem?_eq_getElem hi'⟩
  · obtain ⟨vs', k1, k2⟩ := st Ω' H' s
    obtain ⟨rfl, y⟩ := y
    obtain ⟨v, hv, dv⟩ := k2.get hd
    have := y vs' k1
    rw [hv] at this
    cases this
    exact ⟨Ext.refl _, dv⟩
theorem di_seq (h : DE β r X e m) : DI β false r X tg e (mItems m) := by
  refine pi_imp (pi_or (pi_list h) (pi_tup h)) fun σ H R ⟨F, Ω, S, w, w', ds, Rl, hm, q⟩ => ?_
  unfold mItems at hm
  obtain ⟨⟨d, w1⟩, h1, hm⟩ := Option.bind_eq_some_iff.mp hm
  obtain ⟨xs, h2, hm⟩ := Option.map_eq_some_iff.mp hm
  cases hm
  rcases seqOf_inv h2 with rfl | rfl
  · refine .inl ⟨F, Ω, S, w, _, _, Rl, h1, fun v H1 R1 e1 hv => ?_⟩
    obtain ⟨a, ys, rfl, k1, k2⟩ := walk_lst (K := X.K) R1 hv
    exact ⟨a, rfl, ⟨ys, k1⟩, q _ H1 R1 e1 k2⟩
  · refine .inr ⟨F, Ω, S, w, _, _, Rl, h1, fun v H1 R1 e1 hv => ?_⟩
    obtain ⟨a, ys, rfl, k1, k2⟩ := walk_tup (K := X.K) R1 hv
    exact ⟨a, rfl, ⟨ys, k1⟩, q _ H1 R1 e1 k2⟩

/-! ### range -/
def rngD (lo c : Int) (n : Nat) : List PyData := (List.range n).map fun k => .int (lo + (k : Nat) * c)
theorem rngD_len {lo c : Int} {n : Nat} : (rngD lo c n).length = n := by simp [rngD]
theorem rngD_get {lo c : Int} {n i : Nat} {d : PyData} (h : (rngD lo c n)[i]? = some d) : i < n ∧ d = .int (lo + (i : Nat) * c) := by
  have hl : i < n := by
    have := (List.getElem?_eq_some_iff.mp h).1
    rw [rngD_len] at this
    exact this
  unfold rngD at h
  rw [List.getElem?_map, List.getElem?_range hl] at h
  cases h
  exact ⟨hl, rfl⟩
/-- by its size: the kernel looks at Nat numbers alone -/
def smallI (i : Int) : Bool := decide (i.natAbs < 2 ^ 61)
theorem smallI_ok {i : Int} (h : smallI i = true) : -(2 ^ 62) ≤ i ∧ i < 2 ^ 62 := by
  have := of_decide_eq_true h
  omega
def dRng1 : List PyData → Option (List PyData)
  | [.int j] => if smallI j = true then some (rngD 0 1 j.toNat) else none
  | _ => none
def dRng2 : List PyData → Option (List PyData)
  | [.int i, .int j] => if smallI i = true ∧ smallI j = true then some (rngD i 1 (j - i).toNat) else none
  | _ => none
/-- downwards by one -/
def dRng3 : List PyData → Option (List PyData)
  | [.int i, .int j, .int c] => if c = -1 ∧ smallI i = true ∧ smallI j = true then some (rngD i (-1) (i - j).toNat) else none
  | _ => none
def mRng (g : List PyData → Option (List PyData)) (a : MA) : MA := fun S w => (a S w).bind fun p => (g p.1).map fun xs => (xs, p.2)
abbrev mRng1 := mRng dRng1
abbrev mRng2 := mRng dRng2
abbrev mRng3 := mRng dRng3
theorem walk_rng {F : Fx β} {Ω : AS} {H : Hp} {lo : Int} {n : Nat} : Walk false r F Ω (Itr lo n) H (rngD lo 1 n) :=
  ⟨fun Ω' H' i s hi => by rw [rngD_len] at hi; exact hi, fun Ω' H' i s hi => by rw [rngD_len] at hi; exact hi, fun Ω' H' i x H'' d s hd y => by
    obtain ⟨rfl, rfl⟩ := y
    obtain ⟨_, rfl⟩ := rngD_get hd
    rw [Int.mul_one]
    exact ⟨Ext.refl _, .int _⟩⟩
theorem walk_rngC {F : Fx β} {Ω : AS} {H : Hp} {lo c : Int} {n : Nat} : Walk false r F Ω (Itc lo c n) H (rngD lo c n) :=
  ⟨fun Ω' H' i s hi => by rw [rngD_len] at hi; exact hi, fun Ω' H' i s hi => by rw [rngD_len] at hi; exact hi, fun Ω' H' i x H'' d s hd y => by
    obtain ⟨rfl, rfl⟩ := y
    obtain ⟨_, rfl⟩ := rngD_get hd
    exact ⟨Ext.refl _, .int _⟩⟩
theorem di_range1 (hg : Gl X "range") (hm : X.mg "range" = none) (ha : DA β .esc X [a] mr) (hs : starEach [a] X.env = [(false, eval a X.env)] := by rfl) : DI β false r X tg (.Call (.Name "range" p) [a] [] pos) (mRng1 mr) := by
  refine pi_imp (pi_range1 hg hm ha hs) fun σ H R ⟨F, Ω, S, w, w', ds, Rl, hm, q⟩ => ?_
  unfold mRng1 mRng at hm
  obtain ⟨⟨as, w1⟩, h1, hm⟩ := Option.bind_eq_some_iff.mp hm
  obtain ⟨xs, h2, hm⟩ := Option.map_eq_some_iff.mp hm
  cases hm
  refine ⟨F, Ω, S, w, _, as, Rl, h1, fun vs H1 R1 e1 hv => ?_⟩
  match as, h2, hv with
  | [.int j], h2, hv =>
    obtain ⟨h3, rfl⟩ := ite_some h2
    obtain ⟨v, rfl, hx⟩ := hv.one
    exact ⟨j, by rw [hx.int_inv], (smallI_ok h3).1, (smallI_ok h3).2, q _ H1 R1 e1 walk_rng⟩
theorem di_range2 (hg : Gl X "range") (hm : X.mg "range" = none) (ha : DA β .esc X [a, b] mr) (hs : starEach [a, b] X.env = [(false, eval a X.env), (false, eval b X.env)] := by rfl) (hs2 : starEach [b] X.env = [(false, eval b X.env)] := by rfl) : DI β false r X tg (.Call (.Name "range" p) [a, b] [] pos) (mRng2 mr) := by
  refine pi_imp (pi_range2 hg hm ha hs hs2) fun σ H R ⟨F, Ω, S, w, w', ds, Rl, hm, q⟩ => ?_
  unfold mRng2 mRng at hm
  obtain ⟨⟨as, w1⟩, h1, hm⟩ := Option.bind_eq_some_iff.mp hm
  obtain ⟨xs, h2, hm⟩ := Option.map_eq_some_iff.mp hm
  cases hm
  refine ⟨F, Ω, S, w, _, as, Rl, h1, fun vs H1 R1 e1 hv => ?_⟩
  match as, h2, hv with
  | [.int i, .int j], h2, hv =>
    obtain ⟨⟨h3, h4⟩, rfl⟩ := ite_some h2
    obtain ⟨v, u, rfl, hx, hy⟩ := hv.two
    exact ⟨i, j, by rw [hx.int_inv, hy.int_inv], ⟨(smallI_ok h3).1, (smallI_ok h3).2, (smallI_ok h4).1, (smallI_ok h4).2⟩, q _ H1 R1 e1 walk_rng⟩
theorem di_range3 (hg : Gl X "range") (hm : X.mg "range" = none) (ha : DA β .esc X [a, b, c] mr) (hs : starEach [a, b, c] X.env = (false, eval a X.env) :: starEach [b, c] X.env := by rfl) (hpl : (backTo pos (starEach [b, c] X.env)).any (·.1) = false := by rfl) : DI β false r X tg (.Call (.Name "range" p) [a, b, c] [] pos) (mRng3 mr) := by
  refine pi_imp (pi_range3 hg hm ha hs hpl) fun σ H R ⟨F, Ω, S, w, w', ds, Rl, hm, q⟩ => ?_
  unfold mRng3 mRng at hm
  obtain ⟨⟨as, w1⟩, h1, hm⟩ := Option.bind_eq_some_iff.mp hm
  obtain ⟨xs, h2, hm⟩ := Option.map_eq_some_iff.mp hm
  cases hm
  refine ⟨F, Ω, S, w, _, as, Rl, h1, fun vs H1 R1 e1 hv => ?_⟩
  match as, h2, hv with
  | [.int i, .int j, .int k], h2, hv =>
    obtain ⟨⟨h0, h3, h4⟩, rfl⟩ := ite_some h2
    cases hv with
    | cons hx t =>
      obtain ⟨v, u, rfl, hy, hz⟩ := t.two
      subst h0
      exact ⟨i, j, -1, (i - j).toNat, by rw [hx.int_inv, hy.int_inv, hz.int_inv], RgC.neg (smallI_ok h3).1 (smallI_ok h3).2 (smallI_ok h4).1 (smallI_ok h4).2, q _ H1 R1 e1 walk_rngC⟩

/-! ### enumerate, zip -/
def enumD : Nat → List PyData → List PyData
  | _, [] => []
  | k, d :: ds => .tuple [.int (k : Nat), d] :: enumD (k + 1) ds
theorem enumD_len : ∀ (k : Nat) (ds : List PyData), (enumD k ds).length = ds.length
  | _, [] => rfl
  | k, d :: ds => congrArg (· + 1) (enumD_len (k + 1) ds)
theorem enumD_get : ∀ {ds : List PyData} {k i : Nat} {d : PyData}, (enumD k ds)[i]? = some d → ∃ e, ds[i]? = some e ∧ d = .tuple [.int ((k + i : Nat) : Int), e]
  | [], _, _, _, h => by simp [enumD] at h
  | e :: ds, k, 0, d, h => by
    simp only [enumD, List.getElem?_cons_zero, Option.some.injEq] at h
    exact ⟨e, rfl, h.symm⟩
  | e :: ds, k, i + 1, d, h => by
    simp only [enumD, List.getElem?_cons_succ] at h
    obtain ⟨f, h1, h2⟩ := enumD_get h
    refine ⟨f, by simpa using h1, ?_⟩
    rw [h2, Nat.add_assoc, Nat.add_comm 1 i]
def mEnum (m : ME) : MA := fun S w => (m S w).bind fun p => match p.1 with
  | .list xs => some (enumD 0 xs, p.2)
  | _ => none
theorem item_pair {F : Fx β} {Ω : AS} {H : Hp} {T : Addr} {x y : V} {d e : PyData} (hT : H T = none) (hx : Dv β Ω H x d) (hy : Dv β Ω H y e) : Ext H (upd H T (.tup [x, y])) ∧ Item true F Ω (upd H T (.tup [x, y])) (.ref T) (.tuple [d, e]) :=
  ⟨.new hT, T, _, _, rfl, .inl upd_same, .cons (hx.grow (Ext.new hT).grow) (.cons (hy.grow (Ext.new hT).grow) .nil), rfl⟩
theorem di_enum {k : Nat} (hg : Gl X "enumerate") (hm : X.mg "enumerate" = none) (ha : DE β r X e m) (hs : starEach [e] X.env = [(false, eval e X.env)] := by rfl) : DI β true r X (.Tuple es k pt) (.Call (.Name "enumerate" p) [e] [] pos) (mEnum m) := by
  refine pi_imp (pi_enum hg hm (da_cons ha da_nil (by rw [hs] <;> rfl)) hs) fun σ H R ⟨F, Ω, S, w, w', ds, Rl, hm, q⟩ => ?_
  unfold mEnum at hm
  obtain ⟨⟨d, w1⟩, h1, hm⟩ := Option.bind_eq_some_iff.mp hm
  cases d with
  | list xs =>
    cases hm
    refine ⟨F, Ω, S, w, _, [.list xs], Rl, by unfold mCons mNil; rw [h1]; rfl, fun vs H1 R1 e1 hv => ?_⟩
    obtain ⟨v, rfl, hx⟩ := hv.one
    obtain ⟨a, us, rfl, l1, wk⟩ := walk_lst (K := X.K) R1 hx
    refine ⟨a, us, rfl, l1, q _ H1 R1 e1 ⟨fun Ω' H' i s hi => ?_, fun Ω' H' i s hi => ?_, fun Ω' H' i x H'' d s hd y => ?_⟩⟩
    · rw [enumD_len] at hi
      exact wk.stop Ω' H' i s hi
    · rw [enumD_len] at hi
      exact wk.go Ω' H' i s hi
    · obtain ⟨f, hf, rfl⟩ := enumD_get hd
      obtain ⟨T, x', rfl, hT, rfl, hx'⟩ := y
      have k := (wk.yld Ω' H' i x' H' f s hf ⟨rfl, hx'⟩).2
      rw [Nat.zero_add]
      exact item_pair hT (.int _) k
  | _ => cases hm
def zipD : List PyData → List PyData → List PyData
  | x :: xs, y :: ys => .tuple [x, y] :: zipD xs ys
  | _, _ => []
theorem zipD_len : ∀ xs ys : List PyData, (zipD xs ys).length = min xs.length ys.length
  | [], _ => by simp [zipD]
  | _ :: _, [] => by simp [zipD]
  | _ :: xs, _ :: ys => by simp only [zipD, List.length_cons, zipD_len xs ys]; omega
theorem zipD_get : ∀ {xs ys : List PyData} {i : Nat} {d : PyData}, (zipD xs ys)[i]? = some d → ∃ a b, xs[i]? = some a ∧ ys[i]? = some b ∧ d = .tuple [a, b]
  | [], _, _, _, h => by simp [zipD] at h
  | _ :: _, [], _, _, h => by simp [zipD] at h
  | x :: xs, y :: ys, 0, d, h => by
    simp only [zipD, List.getElem?_cons_zero, Option.some.injEq] at h
    exact ⟨x, y, rfl, rfl, h.symm⟩
  | x :: xs, y :: ys, i + 1, d, h => by
    simp only [zipD, List.getElem?_cons_succ] at h
    obtain ⟨a, b, h1, h2, h3⟩ := zipD_get h
    exact ⟨a, b, by simpa using h1, by simpa using h2, h3⟩
/-- both lists, or both tuples -/
def mZip (m m' : ME) : MA := fun S w => (m S w).bind fun p => (m' S p.2).bind fun q => match p.1, q.1 with
  | .list xs, .list ys => some (zipD xs ys, q.2)
  | .tuple xs, .tuple ys => some (zipD xs ys, q.2)
  | _, _ => none
theorem di_zip {k : Nat} {e2 : Expr} {m2 : ME} (hg : Gl X "zip") (hm : X.mg "zip" = none) (ha : DE β r X e m) (hb : DE β r X e2 m2)
    (hs : starEach [e, e2] X.env = (false, eval e X.env) :: starEach [e2] X.env := by rfl) (hs2 : starEach [e2] X.env = (false, eval e2 X.env) :: starEach [] X.env := by rfl) (hpl : (backTo pos (starEach [e2] X.env)).any (·.1) = false := by rfl) :
    DI β true r X (.Tuple es k pt) (.Call (.Name "zip" p) [e, e2] [] pos) (mZip m m2) := by
  refine pi_imp (RZ.pi_zipA hg hm (da_cons ha (da_cons hb da_nil hs2) hs) hs hpl) fun σ H R ⟨F, Ω, S, w, w', ds, Rl, hm, q⟩ => ?_
  unfold mZip at hm
  obtain ⟨⟨d, w1⟩, h1, hm⟩ := Option.bind_eq_some_iff.mp hm
  obtain ⟨⟨d2, w2⟩, h2, hm⟩ := Option.bind_eq_some_iff.mp hm
  refine ⟨F, Ω, S, w, w2, [d, d2], Rl, by unfold mCons mNil; simp only [h1, h2, Option.bind_some, Option.map_some], fun vs H1 R1 e1 hv => ?_⟩
  obtain ⟨v, u, rfl, hx, hy⟩ := hv.two
  cases d with
  | list xs =>
    cases d2 with
    | list ys =>
      cases hm
      obtain ⟨a, us, rfl, l1, wk⟩ := walk_lst (K := X.K) R1 hx
      obtain ⟨b, us2, rfl, l2, wk2⟩ := walk_lst (K := X.K) R1 hy
      refine ⟨a, b, us, us2, rfl, .inl ⟨l1, l2, q _ H1 R1 e1 ⟨fun Ω' H' i s hi => ?_, fun Ω' H' i s hi => ?_, fun Ω' H' i x H'' d s hd y => ?_⟩⟩⟩
      · rw [zipD_len] at hi
        by_cases hl : xs.length ≤ i
        · obtain ⟨zs, k1, k2⟩ := wk.stop Ω' H' i s hl
          by_cases hl2 : ys.length ≤ i
          · obtain ⟨zs2, k3, k4⟩ := wk2.stop Ω' H' i s hl2
            exact ⟨zs, zs2, k1, k3, .inl k2⟩
          · obtain ⟨zs2, x, k3, k4⟩ := wk2.go Ω' H' i s (by omega)
            exact ⟨zs, zs2, k1, k3, .inl k2⟩
        · obtain ⟨zs, x, k1, k2⟩ := wk.go Ω' H' i s (by omega)
          obtain ⟨zs2, k3, k4⟩ := wk2.stop Ω' H' i s (by omega)
          exact ⟨zs, zs2, k1, k3, .inr k4⟩
      · rw [zipD_len] at hi
        obtain ⟨zs, x, k1, k2⟩ := wk.go Ω' H' i s (by omega)
        obtain ⟨zs2, x2, k3, k4⟩ := wk2.go Ω' H' i s (by omega)
        exact ⟨zs, zs2, x, x2, k1, k3, k2, k4⟩
      · obtain ⟨f, g, hf, hg, rfl⟩ := zipD_get hd
        obtain ⟨T, x', y', rfl, hT, rfl, hx', hy'⟩ := y
        exact item_pair hT (wk.yld Ω' H' i x' H' f s hf ⟨rfl, hx'⟩).2 (wk2.yld Ω' H' i y' H' g s hg ⟨rfl, hy'⟩).2
    | _ => cases hm
  | tuple xs =>
    cases d2 with
    | tuple ys =>
      cases hm
      obtain ⟨a, us, rfl, l1, wk⟩ := walk_tup (K := X.K) R1 hx
      obtain ⟨b, us2, rfl, l2, wk2⟩ := walk_tup (K := X.K) R1 hy
      refine ⟨a, b, us, us2, rfl, .inr ⟨l1, l2, q _ H1 R1 e1 ⟨fun Ω' H' i s hi => ?_, fun Ω' H' i s hi => ?_, fun Ω' H' i x H'' d s hd y => ?_⟩⟩⟩
      · rw [zipD_len] at hi
        by_cases hl : xs.length ≤ i
        · obtain ⟨zs, k1, k2⟩ := wk.stop Ω' H' i s hl
          by_cases hl2 : ys.length ≤ i
          · obtain ⟨zs2, k3, k4⟩ := wk2.stop Ω' H' i s hl2
            exact ⟨zs, zs2, k1, k3, .inl k2⟩
          · obtain ⟨zs2, x, k3, k4⟩ := wk2.go Ω' H' i s (by omega)
            exact ⟨zs, zs2, k1, k3, .inl k2⟩
        · obtain ⟨zs, x, k1, k2⟩ := wk.go Ω' H' i s (by omega)
          obtain ⟨zs2, k3, k4⟩ := wk2.stop Ω' H' i s (by omega)
          exact ⟨zs, zs2, k1, k3, .inr k4⟩
      · rw [zipD_len] at hi
        obtain ⟨zs, x, k1, k2⟩ := wk.go Ω' H' i s (by omega)
        obtain ⟨zs2, x2, k3, k4⟩ := wk2.go Ω' H' i s (by omega)
        exact ⟨zs, zs2, x, x2, k1, k3, k2, k4⟩
      · obtain ⟨f, g, hf, hg, rfl⟩ := zipD_get hd
        obtain ⟨T, x', y', rfl, hT, rfl, hx', hy'⟩ := y
        exact item_pair hT (wk.yld Ω' H' i x' H' f s hf ⟨rfl, hx'⟩).2 (wk2.yld Ω' H' i y' H' g s hg ⟨rfl, hy'⟩).2
    | _ => cases hm
  | _ => cases d2 <;> cases hm
end

/-! ### targets -/
abbrev MG := PyData → SEnv → Option SEnv
abbrev MGs := List PyData → SEnv → Option SEnv
def pName (i : Nat) : MG := fun d S => some (S.set i (.val d))
def pTup (ps : MGs) : MG := fun d S => match d with
  | .tuple ds => ps ds S
  | _ => none
def pNil : MGs := fun ds S => match ds with
  | [] => some S
  | _ => none
def pCons (p : MG) (ps : MGs) : MGs := fun ds S => match ds with
  | d :: ds => (p d S).bind fun S1 => ps ds S1
  | _ => none
/-- but for these slots -/
def SameBut (us : List Nat) (σ σ' : L2.St) : Prop := σ'.length = σ.length ∧ ∀ i, i ∉ us → σ'[i]? = σ[i]?
theorem SameBut.refl (us : List Nat) (σ : L2.St) : SameBut us σ σ := ⟨rfl, fun _ _ => rfl⟩
theorem SameBut.mono {us vs : List Nat} {σ σ' : L2.St} (h : ∀ i ∈ us, i ∈ vs) (s : SameBut us σ σ') : SameBut vs σ σ' := ⟨s.1, fun i n => s.2 i fun z => n (h i z)⟩
theorem SameBut.trans {us : List Nat} {σ σ1 σ2 : L2.St} (a : SameBut us σ σ1) (b : SameBut us σ1 σ2) : SameBut us σ σ2 := ⟨b.1.trans a.1, fun i n => (b.2 i n).trans (a.2 i n)⟩
theorem wipe_at {σ : L2.St} {i : Nat} : ∀ {vs : List Nat}, i ∈ vs → i < σ.length → (wipe σ vs)[i]? = some none
  | [], h, _ => by cases h
  | v :: vs, h, hl => by
    unfold wipe
    by_cases e : v = i
    · rw [e, List.getElem?_set_self (by rw [wipe_length]; exact hl)]
    · rw [List.getElem?_set_ne e]
      rcases List.mem_cons.mp h with z | z
      · exact absurd z.symm e
      · exact wipe_at z hl
theorem SameBut.wipe {us : List Nat} {σ σ' : L2.St} (s : SameBut us σ σ') : wipe σ' us = wipe σ us := by
  refine List.ext_getElem? fun i => ?_
  by_cases h : i ∈ us
  · by_cases hl : i < σ.length
    · rw [wipe_at h hl, wipe_at h (by rw [s.1]; exact hl)]
    · rw [List.getElem?_eq_none (by rw [wipe_length, s.1]; omega), List.getElem?_eq_none (by rw [wipe_length]; omega)]
  · rw [wipe_out h, wipe_out h, s.2 i h]
theorem wipe_twice {σ : L2.St} (us : List Nat) : wipe (wipe σ us) us = wipe σ us := SameBut.wipe ⟨wipe_length σ us, fun i h => wipe_out h⟩
theorem Rel.setVal {β : Bool} {F : Fx β} {H : Hp} {Ω : AS} {σ : L2.St} {S : SEnv} {w : Drw} (R : Rel F H Ω σ S w) {v : V} {d : PyData} (i : Nat) (h : Dv β Ω H v d) : Rel F H Ω (σ.set i (some v)) (S.set i (.val d)) w := by
  have hne : ∀ (j : Nat) (e : PyData), (S.set i (.val d))[j]? = some (Sl.own e) → i ≠ j ∧ S[j]? = some (Sl.own e) := fun j e k => by
    by_cases hj : i = j
    · subst hj
      rw [List.getElem?_set] at k
      simp only [if_true] at k
      split at k
      · cases k
      · cases k
    · rw [List.getElem?_set_ne hj] at k
      exact ⟨hj, k⟩
  refine ⟨R.ext, R.base, R.dom, R.old, by rw [List.length_set, List.length_set]; exact R.len, fun j sl k => ?_, fun j1 j2 d1 d2 a k1 k2 s1 s2 => ?_, R.wok⟩
  · by_cases hj : i = j
    · subst hj
      rw [List.getElem?_set] at k
      simp only [if_true] at k
      split at k
      · rename_i hl
        cases k
        exact ⟨v, by rw [List.getElem?_set_self (by rw [← R.len]; exact hl)], h⟩
      · cases k
    · rw [List.getElem?_set_ne hj] at k
      have q := R.slot j sl k
      cases sl with
      | no => trivial
      | val e => obtain ⟨u, q1, q2⟩ := q; exact ⟨u, by rw [List.getElem?_set_ne hj]; exact q1, q2⟩
      | own e => obtain ⟨a, q1, q2, q3, q4⟩ := q; exact ⟨a, by rw [List.getElem?_set_ne hj]; exact q1, q2, q3, q4⟩
      | stt => obtain ⟨a, q1, q2⟩ := q; exact ⟨a, q1, by rw [List.getElem?_set_ne hj]; exact q2⟩
      | raw v => exact (List.getElem?_set_ne hj).trans q
  · obtain ⟨n1, k1⟩ := hne j1 d1 k1
    obtain ⟨n2, k2⟩ := hne j2 d2 k2
    rw [List.getElem?_set_ne n1] at s1
    rw [List.getElem?_set_ne n2] at s2
    exact R.uniq j1 j2 d1 d2 a k1 k2 s1 s2
def tPat (β : Bool) (z : Bool) (us : List Nat) (p : MG) : TG := fun v σ H Q => ∃ (F : Fx β) (Ω : AS) (S : SEnv) (w : Drw) (d : PyData) (S' : SEnv),
  Rel F H Ω σ S w ∧ Item z F Ω H v d ∧ p d S = some S' ∧ ∀ σ', Rel F H Ω σ' S' w → SameBut us σ σ' → Q σ' H
def tPats (β : Bool) (us : List Nat) (p : MGs) : TGs := fun vs σ H Q => ∃ (F : Fx β) (Ω : AS) (S : SEnv) (w : Drw) (ds : List PyData) (S' : SEnv),
  Rel F H Ω σ S w ∧ DvA β Ω H vs ds ∧ p ds S = some S' ∧ ∀ σ', Rel F H Ω σ' S' w → SameBut us σ σ' → Q σ' H
def DG (β : Bool) (z : Bool) (us : List Nat) (X : Cx) (tg : Expr) (p : MG) : Prop := PG X tg (tPat β z us p)
def DGs (β : Bool) (us : List Nat) (n : Nat) (X : Cx) (ts : List Expr) (p : MGs) : Prop := PGs X ts (tPats β us p) ∧ ∀ ds S S', p ds S = some S' → ds.length = n
section
variable {β : Bool} {X : Cx} {e a b c tg : Expr} {es : List Expr} {pos : Pos} {p : MG} {ps : MGs} {us : List Nat}
theorem dg_name {i : Nat} {x : Str} (hN : X.N.Nodup) (hi : X.N[i]? = some x) (hx : Loc X.env.scope x) (hu : i ∈ us := by decide) (hf : X.fn x = true ∨ X.env.scope.names.lookup x = some .local := by first | exact .inl rfl | exact .inr rfl | assumption) : DG β false us X (.Name x pos) (pName i) :=
  pg_imp (pg_name hN hi hx hf) fun v σ H Q ⟨F, Ω, S, w, d, S', R, hv, hp, q⟩ => by
    cases hp
    refine q _ (R.setVal i hv) ⟨by rw [List.length_set], fun j hj => ?_⟩
    exact List.getElem?_set_ne (fun z => hj (by rw [← z]; exact hu))
theorem dgs_nil : DGs β us 0 X [] pNil := by
  refine ⟨pgs_imp pgs_nil fun vs σ H Q ⟨F, Ω, S, w, ds, S', R, hv, hp, q⟩ => ?_, fun ds S S' h => ?_⟩
  · cases hv with
    | nil =>
      cases hp
      exact ⟨rfl, q σ R (SameBut.refl _ _)⟩
    | cons => cases hp
  · cases ds with
    | nil => rfl
    | cons => cases h
theorem dgs_cons {n : Nat} (h1 : DG β false us X e p) (h2 : DGs β us n X es ps) (hs : (assignEach (e :: es) X.env).map (·.2) = assign e X.env :: (assignEach es X.env).map (·.2) := by rfl) : DGs β us (n + 1) X (e :: es) (pCons p ps) :=
  ⟨pgs_imp (pgs_cons h1 h2.1 hs) fun vs σ H Q ⟨F, Ω, S, w, ds, S', R, hv, hp, q⟩ => by
    cases hv with
    | nil => cases hp
    | cons hd ht =>
      obtain ⟨S1, k1, k2⟩ := Option.bind_eq_some_iff.mp hp
      exact ⟨_, _, rfl, F, Ω, S, w, _, S1, R, hd, k1, fun σ1 R1 s1 => ⟨F, Ω, S1, w, _, S', R1, ht, k2, fun σ2 R2 s2 => q σ2 R2 (s1.trans s2)⟩⟩, fun ds S S' h => by
    cases ds with
    | nil => cases h
    | cons d ds =>
      obtain ⟨S1, k1, k2⟩ := Option.bind_eq_some_iff.mp (show ((p d S).bind fun S1 => ps ds S1) = some S' from h)
      exact congrArg (· + 1) (h2.2 ds S1 S' k2)⟩
theorem dg_tup {k n : Nat} (hc : X.calm = true) (h : DGs β us n X es ps) (hn : (assignEach es X.env).length = n := by rfl) (hst : (assignEach es X.env).findIdx? (·.1) = none := by rfl) : DG β true us X (.Tuple es k pos) (pTup ps) :=
  pg_imp (pg_tup hc h.1 hn hst) fun v σ H Q ⟨F, Ω, S, w, d, S', R, hv, hp, q⟩ => by
    obtain ⟨a, xs, ds, rfl, h1, h2, rfl⟩ := hv
    exact ⟨a, xs, rfl, .inl h1, by rw [h2.length]; exact h.2 ds S S' hp, F, Ω, S, w, ds, S', R, h2, hp, q⟩
/-- a tuple that is a value, too -/
theorem dg_tupV (h : DG β true us X tg (pTup ps)) : DG β false us X tg (pTup ps) := pg_imp h fun v σ H Q ⟨F, Ω, S, w, d, S', R, hv, hp, q⟩ => by
  cases d with
  | tuple ds =>
    obtain ⟨a, xs, rfl, h1, _, _, h2⟩ := Dv.tup_inv hv
    exact ⟨F, Ω, S, w, _, S', R, ⟨a, xs, ds, rfl, h1.rd, h2, rfl⟩, hp, q⟩
  | _ => cases hp
end

/-! ### [e for x in xs if c] -/
def wipeS (S : SEnv) : List Nat → SEnv
  | [] => S
  | v :: vs => (wipeS S vs).set v .no
theorem wipeS_length (S : SEnv) : ∀ vs : List Nat, (wipeS S vs).length = S.length
  | [] => rfl
  | v :: vs => by unfold wipeS; rw [List.length_set, wipeS_length S vs]
theorem wipeS_at {S : SEnv} {i : Nat} {x : Sl} : ∀ {vs : List Nat}, (wipeS S vs)[i]? = some x → x = .no ∨ (S[i]? = some x ∧ i ∉ vs)
  | [], h => .inr ⟨h, by simp⟩
  | v :: vs, h => by
    unfold wipeS at h
    by_cases hi : v = i
    · subst hi
      rw [List.getElem?_set] at h
      simp only [if_true] at h
      split at h
      · cases h; exact .inl rfl
      · cases h
    · rw [List.getElem?_set_ne hi] at h
      rcases wipeS_at h with z | ⟨z1, z2⟩
      · exact .inl z
      · exact .inr ⟨z1, by simp only [List.mem_cons, not_or]; exact ⟨fun e => hi e.symm, z2⟩⟩
theorem Rel.wipe {β : Bool} {F : Fx β} {H : Hp} {Ω : AS} {σ : L2.St} {S : SEnv} {w : Drw} (R : Rel F H Ω σ S w) (vs : List Nat) : Rel F H Ω (wipe σ vs) (wipeS S vs) w := by
  refine ⟨R.ext, R.base, R.dom, R.old, by rw [wipe_length, wipeS_length]; exact R.len, fun i sl k => ?_, fun i j d e a k1 k2 s1 s2 => ?_, R.wok⟩
  · rcases wipeS_at k with rfl | ⟨k, n⟩
    · trivial
    · have q := R.slot i sl k
      cases sl with
      | no => trivial
      | val e => obtain ⟨u, q1, q2⟩ := q; exact ⟨u, by rw [wipe_out n]; exact q1, q2⟩
      | own e => obtain ⟨a, q1, q2, q3, q4⟩ := q; exact ⟨a, by rw [wipe_out n]; exact q1, q2, q3, q4⟩
      | stt => obtain ⟨a, q1, q2⟩ := q; exact ⟨a, q1, by rw [wipe_out n]; exact q2⟩
      | raw v => exact (wipe_out n).trans q
  · rcases wipeS_at k1 with z | ⟨k1, n1⟩
    · cases z
    · rcases wipeS_at k2 with z | ⟨k2, n2⟩
      · cases z
      · exact R.uniq i j d e a k1 k2 (by rw [← wipe_out n1]; exact s1) (by rw [← wipe_out n2]; exact s2)
/-- one more object of the def's own -/
def Also (Ω : AS) (D : Addr) : AS := fun a => Ω a ∨ a = D
theorem Rel.also {β : Bool} {F : Fx β} {H H' : Hp} {Ω : AS} {σ : L2.St} {S : SEnv} {w w' : Drw} {D : Addr} (R : Rel F H Ω σ S w) (hD : H D = none) (e : Evs F.st H H') (k : WOk F.st F.cl F.Ψ H' w') (hn : H' D ≠ none) : Rel F H' (Also Ω D) σ S w' := by
  have R1 := R.evs e k
  refine ⟨R1.ext, fun a h => .inl (R1.base a h), fun a h => ?_, R1.old, R1.len, fun i sl hi => ?_, R1.uniq, k⟩
  · rcases h with h | h
    · exact R1.dom a h
    · rw [h]; exact hn
  · have g : Grow Ω H (Also Ω D) H' := ⟨fun a h => h.elim .inl fun z => .inr (by rw [z]; exact hD), R.evo e⟩
    have q := R.slot i sl hi
    cases sl with
    | no => trivial
    | val d =>
      obtain ⟨v, h1, h2⟩ := q
      exact ⟨v, h1, h2.grow g⟩
    | own d =>
      obtain ⟨a, h1, h2, h3, h4⟩ := q
      obtain ⟨o, ho⟩ := h4.some
      have hne : F.st ≠ some a := fun z => R.old a (R.stΨ z).1 h3
      exact ⟨a, h1, .inl h2, h3, h4.grow g ((e a o ho hne).trans ho.symm)⟩
    | stt => exact q
    | raw v => exact q
theorem Dv.less {β : Bool} {Ω Ω' : AS} {H : Hp} (h : ∀ a, Ω a → Ω' a) {v : V} {d : PyData} (k : Dv β Ω' H v d) : Dv β Ω H v d := k.grow ⟨fun a q => .inl (h a q), Evo.refl _ _⟩
theorem DvA.less {β : Bool} {Ω Ω' : AS} {H : Hp} (h : ∀ a, Ω a → Ω' a) {v : List V} {d : List PyData} (k : DvA β Ω' H v d) : DvA β Ω H v d := k.grow ⟨fun a q => .inl (h a q), Evo.refl _ _⟩
def lcGo (p : MG) (t : MT) (e : ME) (S : SEnv) : List PyData → Drw → Option (List PyData × Drw)
  | [], w => some ([], w)
  | d :: ds, w => (p d S).bind fun S1 => (t S1 w).bind fun q => if q.1 = true then (e S1 q.2).bind fun y => (lcGo p t e S ds y.2).map fun r => (y.1 :: r.1, r.2) else lcGo p t e S ds q.2
theorem lcGo_cons {p : MG} {t : MT} {e : ME} {S : SEnv} {d : PyData} {ds : List PyData} {w : Drw} : lcGo p t e S (d :: ds) w = (p d S).bind fun S1 => (t S1 w).bind fun q => if q.1 = true then (e S1 q.2).bind fun y => (lcGo p t e S ds y.2).map fun r => (y.1 :: r.1, r.2) else lcGo p t e S ds q.2 := rfl
def mYes : MT := fun _ w => some (true, w)
def mLc (mi : MA) (p : MG) (t : MT) (e : ME) (vs : List Nat) : ME := fun S w => (mi S w).bind fun q => (lcGo p t e (wipeS S vs) q.1 q.2).bind fun r => if r.1.length ≤ LB then some (.list r.1, r.2) else none
def DTs (β : Bool) (X : Cx) (ifs : List Expr) (t : MT) : Prop := PTs X ifs (tTs β t)
section
variable {β : Bool} {X : Cx} {tg iter elt c : Expr} {ifs : List Expr} {scope : Scope} {own : List (Str × Nat)} {pos : Pos} {p : MG} {mi : MA} {mt : MT} {me : ME} {us : List Nat} {z : Bool}
theorem pts_imp {t t' : TT} (h : PTs X ifs t) (k : ∀ σ H Q, t' σ H Q → t σ H Q) : PTs X ifs t' := ⟨fun pins s σ H Q I hw => h.run pins s σ H Q I (k σ H Q hw)⟩
theorem dts_nil : DTs β X [] mYes := pts_imp pts_nil fun σ H Q ⟨F, Ω, S, w, w', b, R, hm, q⟩ => by
  cases hm
  exact q H R (Evs.refl _ _)
theorem dts_one (h : DT β X c mt) : DTs β X [c] mt := pts_one h
/-- a value that is a new object of the def's own -/
def tFr (β : Bool) (m : ME) : TE := fun σ H Q => ∃ (F : Fx β) (Ω : AS) (S : SEnv) (w w' : Drw) (d : PyData),
  Rel F H Ω σ S w ∧ m S w = some (d, w') ∧ ∀ a H', Rel F H' Ω σ S w' → Evs F.st H H' → H a = none → OwnAt β (Also Ω a) H' a d → Q (.ref a) H'
def DF (β : Bool) (X : Cx) (e : Expr) (m : ME) : Prop := PE X e (tFr β m)
theorem OwnAt.dv {β : Bool} {Ω : AS} {H : Hp} {a : Addr} {d : PyData} (n : ¬ Ω a) (h : OwnAt β (Also Ω a) H a d) : Dv β Ω H (.ref a) d := by
  cases d with
  | list ds =>
    obtain ⟨vs, h1, h2, h3⟩ := h
    exact .lst h1 n h2 (h3.less fun a h => .inl h)
  | dict ps =>
    rcases h with ⟨kvs, ds, h1, h2, h3, rfl⟩ | ⟨kvs, ds, h1, h2, h3, rfl⟩
    · exact .dK (.inl h1) n h2 (h3.less fun a h => .inl h)
    · exact .dT (.inl h1) n h2 (h3.less fun a h => .inl h)
  | _ => exact False.elim h
theorem de_of_fr {m : ME} {e : Expr} (h : DF β X e m) : DE β .esc X e m := pe_imp h fun σ H Q ⟨F, Ω, S, w, w', d, R, hm, q⟩ =>
  ⟨F, Ω, S, w, w', d, R, hm, fun a H' R' e' hn ho => q (.ref a) H' R' e' (ho.dv fun z => R.dom a z hn)⟩
theorem lc_walk {vs : List Nat} {F : Fx β} {Ω : AS} {σ : L2.St} {S : SEnv} {w1 w2 : Drw} {ds rs : List PyData} {J : It} {H1 : Hp} {Q : VK} (R1 : Rel F H1 Ω σ S w1) (wk : Walk z .top F Ω J H1 ds) (h2 : lcGo p mt me (wipeS S vs) ds w1 = some (rs, w2)) (hl : rs.length ≤ LB)
    (q : ∀ D H', H1 D = none → Rel F H' Ω σ S w2 → Evs F.st H1 H' → OwnAt β (Also Ω D) H' D (.list rs) → Q (.ref D) H') (D : Addr) (hD : H1 D = none) :
    ∃ W : Nat → Nat → Hp → Prop, (∃ m, W 0 m (upd H1 D (.lst []))) ∧ ∀ i m H, W i m H →
      (J.stop i H ∧ Q (.ref D) H) ∨ (J.go i H ∧ ∃ Nx : Hp → Prop, (∀ H', Nx H' → ∃ m', m' < m ∧ W (i + 1) m' H') ∧ ∀ x H', J.yld i H x H' → tPat β z vs p x (L2.wipe σ vs) H' fun σ2 H2 => L2.wipe σ2 vs = L2.wipe σ vs ∧ tTs β mt σ2 H2 fun b H3 =>
        if b = true then tEv β .esc me σ2 H3 fun y H4 => ∃ acc, H4 D = some (.lst acc) ∧ acc.length < sizeLine ∧ Nx (upd H4 D (.lst (acc ++ [y]))) else Nx H3) := by
  let Inv : Nat → Hp → Prop := fun i H' => ∃ wi accv accd rest, Evs F.st H1 H' ∧ WOk F.st F.cl F.Ψ H' wi ∧ H' D = some (.lst accv) ∧ DvA β (Also Ω D) H' accv accd ∧ lcGo p mt me (wipeS S vs) (ds.drop i) wi = some (rest, w2) ∧ rs = accd ++ rest
  have ax : ∀ {H' xs}, Evs F.st H1 H' → Evs F.st H1 (upd H' D (.lst xs)) := fun e a o h n => by
    rw [upd_ne (ne_of_none h hD)]
    exact e a o h n
  have wx : ∀ {H' : Hp} {xs wi}, WOk F.st F.cl F.Ψ H' wi → WOk F.st F.cl F.Ψ (upd H' D (.lst xs)) wi := fun {H' xs wi} k => by
    cases hst : F.st with
    | none => trivial
    | some s =>
      have n1 : ∀ a, F.Ψ a → a ≠ D := fun a ha hz => R1.dom a (R1.base a ha) (by rw [hz]; exact hD)
      rw [hst] at k
      obtain ⟨k0, k1, k2, k3, k4, k5⟩ := k
      exact ⟨k0, k1, k2, by rw [upd_ne (n1 _ k0)]; exact k3, by rw [upd_ne (n1 _ k1)]; exact k4, k5⟩
  refine ⟨fun i m H' => m = ds.length - i ∧ i ≤ ds.length ∧ Inv i H', ⟨ds.length, by simp, Nat.zero_le _, w1, [], [], rs, ax (Evs.refl _ _), wx R1.wok, upd_same, .nil, h2, rfl⟩, ?_⟩
  rintro i m H' ⟨rfl, hi, wi, accv, accd, rest, ev, wok, hDl, hacc, hgo, hrs⟩
  have gr : Grow Ω H1 (Also Ω D) H' := ⟨fun a h => h.elim .inl fun z => .inr (by rw [z]; exact hD), R1.evo ev⟩
  have st : Stay .top F Ω H1 (Also Ω D) H' := ⟨gr, fun _ => ev⟩
  by_cases hlt : i < ds.length
  · refine .inr ⟨wk.go _ H' i st hlt, Inv (i + 1), fun H'' p' => ⟨ds.length - (i + 1), by omega, rfl, hlt, p'⟩, fun x H2 y => ?_⟩
    rw [List.drop_eq_getElem_cons hlt] at hgo
    unfold lcGo at hgo
    obtain ⟨S1, g1, hgo⟩ := Option.bind_eq_some_iff.mp hgo
    obtain ⟨⟨b, wb⟩, g2, hgo⟩ := Option.bind_eq_some_iff.mp hgo
    obtain ⟨ex, hit⟩ := wk.yld _ H' i x H2 _ st (List.getElem?_eq_getElem hlt) y
    have R2 : Rel F H' (Also Ω D) (wipe σ vs) (wipeS S vs) wi := (R1.also hD ev wok (by rw [hDl]; exact fun z => nomatch z)).wipe vs
    have R3 := R2.ex ex
    refine ⟨F, Also Ω D, wipeS S vs, wi, _, S1, R3, hit, g1, fun σ' R4 sb => ⟨by rw [sb.wipe]; exact wipe_twice vs, F, Also Ω D, S1, wi, wb, b, R4, g2, fun H3 R5 e5 => ?_⟩⟩
    have nD : F.st ≠ some D := fun z => R1.old D (R1.stΨ z).1 (by
      cases q0 : F.H0 D with
      | none => rfl
      | some o =>
        have := R1.ext D o q0 (fun z2 => R1.dom D (R1.stΨ z2).2 hD)
        rw [hD] at this; cases this)
    have l3 : H3 D = some (.lst accv) := e5 D _ (ex D _ hDl) nD
    have g3 : Evs F.st H1 H3 := (ev.trans ex.evs).trans e5
    have a3 : DvA β (Also Ω D) H3 accv accd := hacc.grow ((Ext.grow ex).trans (R4.grow e5))
    cases b with
    | true =>
      simp only [if_true] at hgo ⊢
      obtain ⟨⟨yd, wy⟩, g4, hgo⟩ := Option.bind_eq_some_iff.mp hgo
      obtain ⟨⟨rest', w2'⟩, g5, hgo⟩ := Option.map_eq_some_iff.mp hgo
      cases hgo
      refine ⟨F, Also Ω D, S1, wb, wy, yd, R5, g4, fun yv H4 R6 e6 hy => ?_⟩
      have l4 : H4 D = some (.lst accv) := e6 D _ l3 nD
      have a4 : DvA β (Also Ω D) H4 accv accd := a3.grow (R5.grow e6)
      have al : accv.length < sizeLine := LB_lt (by
        have q1 := hacc.length
        rw [hrs, List.length_append] at hl
        simp only [List.length_cons] at hl
        omega)
      refine ⟨accv, l4, al, wy, accv ++ [yv], accd ++ [yd], rest', ax (g3.trans e6), wx R6.wok, upd_same, ?_, g5, by rw [hrs, List.append_assoc]; rfl⟩
      refine DvA.grow (Ω := Also Ω D) (H := H4) ⟨fun a h => .inl h, fun a o h n => ?_⟩ (a4.append (.cons hy .nil))
      rw [upd_ne (fun z => n (.inr z))]
      exact h
    | false =>
      simp only [Bool.false_eq_true, if_false] at hgo ⊢
      exact ⟨wb, accv, accd, rest, g3, R5.wok, l3, a3, hgo, hrs⟩
  · have e : i = ds.length := by omega
    subst e
    rw [List.drop_length] at hgo
    cases hgo
    rw [List.append_nil] at hrs
    subst hrs
    exact .inl ⟨wk.stop _ H' _ st (Nat.le_refl _), q D H' hD (R1.evs ev wok) ev ⟨accv, hDl, by rw [hacc.length]; exact hl, hacc⟩⟩
theorem lc_fr {vs : List Nat} {σ : L2.St} {H : Hp} {Q : VK} (h : tFr β (mLc mi p mt me vs) σ H Q) : tLc (tIt β z .top mi) (tPat β z vs p) (tTs β mt) (tEv β .esc me) vs σ H Q := by
  obtain ⟨F, Ω, S, w, w', d, R, hm, q⟩ := h
  unfold mLc at hm
  obtain ⟨⟨ds, w1⟩, h1, hm⟩ := Option.bind_eq_some_iff.mp hm
  obtain ⟨⟨rs, w2⟩, h2, hm⟩ := Option.bind_eq_some_iff.mp hm
  obtain ⟨hl, hm⟩ := ite_some hm
  cases hm
  refine ⟨F, Ω, S, w, w1, ds, R, h1, fun J H1 R1 e1 wk => lc_walk R1 wk h2 hl fun D H' hD R' ev ho => q D H' R' (e1.trans ev) ?_ ho⟩
  cases q0 : H D with
  | none => rfl
  | some o =>
    by_cases hz : F.st = some D
    · exact absurd hD (R1.dom D (R1.stΨ hz).2)
    · rw [e1 D o q0 hz] at hD; cases hD
theorem df_lc (hc : X.calm = true) (hN : X.N.Nodup) (hi : DI β z .top X tg iter mi) (ok : BlkOk X.N X.env.scope scope own)
    (hg : ∀ (s : Shared) (H : Hp) (C : Addr) (cl : List (Str × Addr)) (fp : List Addr), DG β z (own.map (·.2)) (X.blk s H scope (compEnvC scope cl C X.env) fp) tg p) (ht : ∀ (s : Shared) (H : Hp) (C : Addr) (cl : List (Str × Addr)) (fp : List Addr), DTs β (X.blk s H scope (compEnvC scope cl C X.env) fp) ifs mt)
    (he : ∀ (s : Shared) (H : Hp) (C : Addr) (cl : List (Str × Addr)) (fp : List Addr), DE β .esc (X.blk s H scope (compEnvC scope cl C X.env) fp) elt me) (hs : ∀ x, foldedSetIterable iter X.env x = pure x := by intro _; rfl) :
    DF β X (.ListComp elt [⟨tg, iter, ifs, 0⟩] scope pos) (mLc mi p mt me (own.map (·.2))) :=
  pe_imp (pe_lc hc hN hi ok hg ht he hs) fun _ _ _ h => lc_fr h
theorem de_lc (hc : X.calm = true) (hN : X.N.Nodup) (hi : DI β z .top X tg iter mi) (ok : BlkOk X.N X.env.scope scope own)
    (hg : ∀ (s : Shared) (H : Hp) (C : Addr) (cl : List (Str × Addr)) (fp : List Addr), DG β z (own.map (·.2)) (X.blk s H scope (compEnvC scope cl C X.env) fp) tg p) (ht : ∀ (s : Shared) (H : Hp) (C : Addr) (cl : List (Str × Addr)) (fp : List Addr), DTs β (X.blk s H scope (compEnvC scope cl C X.env) fp) ifs mt)
    (he : ∀ (s : Shared) (H : Hp) (C : Addr) (cl : List (Str × Addr)) (fp : List Addr), DE β .esc (X.blk s H scope (compEnvC scope cl C X.env) fp) elt me) (hs : ∀ x, foldedSetIterable iter X.env x = pure x := by intro _; rfl) :
    DE β .esc X (.ListComp elt [⟨tg, iter, ifs, 0⟩] scope pos) (mLc mi p mt me (own.map (·.2))) :=
  de_of_fr (df_lc hc hN hi ok hg ht he hs)
end
end Mini

set_option Elab.async false
set_option linter.all false
set_option maxRecDepth 100000
set_option maxHeartbeats 4000000
/-! Mini F: statements. -/
namespace Mini
open PySem PySem.Spec PyProof.Rows L2

inductive Fl where
  | nx | bk | ct
  | rt (d : PyData)
abbrev MS := SEnv → Drw → Option (Fl × SEnv × Drw)
def EndOk {β : Bool} (F : Fx β) (Ω : AS) (H : Hp) (D : Ends) (S' : SEnv) (w' : Drw) : Fl → Prop
  | .nx => ∀ σ' H' Ω', Rel F H' Ω' σ' S' w' → Grow Ω H Ω' H' → D.nx σ' H'
  | .bk => ∀ σ' H' Ω', Rel F H' Ω' σ' S' w' → Grow Ω H Ω' H' → D.bk σ' H'
  | .ct => ∀ σ' H' Ω', Rel F H' Ω' σ' S' w' → Grow Ω H Ω' H' → D.ct σ' H'
  | .rt d => ∀ v H', Evs F.st F.H0 H' → WOk F.st F.cl F.Ψ H' w' → Dv β F.Ψ H' v d → D.rt v H'
theorem EndOk.mono {β : Bool} {F : Fx β} {Ω Ω1 : AS} {H H1 : Hp} {D : Ends} {S' : SEnv} {w' : Drw} {fl : Fl} (g : Grow Ω H Ω1 H1) (h : EndOk F Ω H D S' w' fl) : EndOk F Ω1 H1 D S' w' fl := by
  cases fl with
  | rt d => exact h
  | nx => exact fun σ' H' Ω' R q => h σ' H' Ω' R (g.trans q)
  | bk => exact fun σ' H' Ω' R q => h σ' H' Ω' R (g.trans q)
  | ct => exact fun σ' H' Ω' R q => h σ' H' Ω' R (g.trans q)
def tSv (β : Bool) (m : MS) : TS := fun D σ H => ∃ (F : Fx β) (Ω : AS) (S : SEnv) (w : Drw) (fl : Fl) (S' : SEnv) (w' : Drw),
  Rel F H Ω σ S w ∧ m S w = some (fl, S', w') ∧ EndOk F Ω H D S' w' fl
def DS (β : Bool) (X : Cx) (st : Stmt) (m : MS) : Prop := PS X st (tSv β m)
def DB (β : Bool) (X : Cx) (sts : List Stmt) (m : MS) : Prop := PSs X sts (tSv β m)
theorem ps_imp {X : Cx} {st : Stmt} {t t' : TS} (h : PS X st t) (k : ∀ D σ H, t' D σ H → t D σ H) : PS X st t' := ⟨fun pins s σ H D I hw => h.run pins s σ H D I (k D σ H hw)⟩
theorem pss_imp {X : Cx} {st : List Stmt} {t t' : TS} (h : PSs X st t) (k : ∀ D σ H, t' D σ H → t D σ H) : PSs X st t' := ⟨fun pins s σ H D I hw => h.run pins s σ H D I (k D σ H hw)⟩

/-! ### the models -/
def sNx : MS := fun S w => some (.nx, S, w)
def sBk : MS := fun S w => some (.bk, S, w)
def sCt : MS := fun S w => some (.ct, S, w)
def sNo : MS := fun _ _ => none
def sSeq (a b : MS) : MS := fun S w => (a S w).bind fun r => match r with
  | (.nx, S1, w1) => b S1 w1
  | (f, S1, w1) => some (f, S1, w1)
def sIf (t : MT) (a b : MS) : MS := fun S w => (t S w).bind fun p => if p.1 = true then a S p.2 else b S p.2
def sRet (e : ME) : MS := fun S w => (e S w).map fun p => (.rt p.1, S, p.2)
def sRetN : MS := fun S w => some (.rt .none, S, w)
def sDrop (e : ME) : MS := fun S w => (e S w).map fun p => (.nx, S, p.2)
def sAsg (e : ME) (p : MG) : MS := fun S w => (e S w).bind fun q => (p q.1 S).map fun S1 => (.nx, S1, q.2)
def sOwn (i : Nat) (e : ME) : MS := fun S w => (e S w).map fun q => (.nx, S.set i (.own q.1), q.2)
def frz (i : Nat) (S : SEnv) : SEnv := match S[i]? with
  | some (.own d) => S.set i (.val d)
  | _ => S
def sFrz (i : Nat) (a : MS) : MS := fun S w => a (frz i S) w
def sPar (i j : Nat) (a : MA) : MS := fun S w => (a S w).bind fun q => match q.1 with
  | [d, e] => some (.nx, (S.set i (.val d)).set j (.val e), q.2)
  | _ => none
def sPar3 (i j l : Nat) (a : MA) : MS := fun S w => (a S w).bind fun q => match q.1 with
  | [d, e, f] => some (.nx, ((S.set i (.val d)).set j (.val e)).set l (.val f), q.2)
  | _ => none
/-- x.append(e), x.extend(e), x[k] = e -/
def sApp (i : Nat) (e : ME) : MS := fun S w => match S[i]? with
  | some (.own (.list ds)) => (e S w).bind fun q => if ds.length + 1 ≤ LB then some (.nx, S.set i (.own (.list (ds ++ [q.1]))), q.2) else none
  | _ => none
def sExt (i : Nat) (e : ME) : MS := fun S w => match S[i]? with
  | some (.own (.list ds)) => (e S w).bind fun q => match q.1 with
    | .list es => if ds.length + es.length ≤ LB then some (.nx, S.set i (.own (.list (ds ++ es))), q.2) else none
    | _ => none
  | _ => none
def sSetIx (i : Nat) (k e : ME) : MS := fun S w => (e S w).bind fun q => match S[i]? with
  | some (.own (.list ds)) => (k S q.2).bind fun r => match r.1 with
    | .int n => (ixN ds.length n).map fun j => (.nx, S.set i (.own (.list (ds.set j q.1))), r.2)
    | _ => none
  | _ => none
/-- name op= e -/
def sAug (g : PyData → PyData → Option PyData) (i : Nat) (e : ME) : MS := fun S w => match S[i]? with
  | some (.val d) => (e S w).bind fun q => (g d q.1).map fun r => (.nx, S.set i (.val r), q.2)
  | _ => none
def forGo (p : MG) (b : MS) : List PyData → SEnv → Drw → Option (Fl × SEnv × Drw)
  | [], S, w => some (.nx, S, w)
  | d :: ds, S, w => (p d S).bind fun S1 => (b S1 w).bind fun r => match r with
    | (.nx, S2, w2) => forGo p b ds S2 w2
    | (.ct, S2, w2) => forGo p b ds S2 w2
    | (.bk, S2, w2) => some (.nx, S2, w2)
    | (.rt d, S2, w2) => some (.rt d, S2, w2)
theorem forGo_cons {p : MG} {b : MS} {d : PyData} {ds : List PyData} {S : SEnv} {w : Drw} : forGo p b (d :: ds) S w = (p d S).bind fun S1 => (b S1 w).bind fun r => match r with
    | (.nx, S2, w2) => forGo p b ds S2 w2
    | (.ct, S2, w2) => forGo p b ds S2 w2
    | (.bk, S2, w2) => some (.nx, S2, w2)
    | (.rt d, S2, w2) => some (.rt d, S2, w2) := rfl
def sFor (mi : MA) (p : MG) (b : MS) : MS := fun S w => (mi S w).bind fun q => forGo p b q.1 S q.2
def whGo (t : MT) (b : MS) : Nat → SEnv → Drw → Option (Fl × SEnv × Drw)
  | 0, _, _ => none
  | n + 1, S, w => (t S w).bind fun q => if q.1 = true then (b S q.2).bind fun r => match r with
    | (.nx, S2, w2) => whGo t b n S2 w2
    | (.ct, S2, w2) => whGo t b n S2 w2
    | (.bk, S2, w2) => some (.nx, S2, w2)
    | (.rt d, S2, w2) => some (.rt d, S2, w2)
    else some (.nx, S, q.2)
theorem whGo_succ {t : MT} {b : MS} {n : Nat} {S : SEnv} {w : Drw} : whGo t b (n + 1) S w = (t S w).bind fun q => if q.1 = true then (b S q.2).bind fun r => match r with
    | (.nx, S2, w2) => whGo t b n S2 w2
    | (.ct, S2, w2) => whGo t b n S2 w2
    | (.bk, S2, w2) => some (.nx, S2, w2)
    | (.rt d, S2, w2) => some (.rt d, S2, w2)
    else some (.nx, S, q.2) := rfl
def sWhile (n : Nat) (t : MT) (b : MS) : MS := fun S w => whGo t b n S w

/-! ### the slots -/
section
variable {β : Bool} {F : Fx β} {H H' : Hp} {Ω : AS} {σ : L2.St} {S : SEnv} {w w' : Drw}
theorem Dx.leave {v : V} {d : PyData} (R : Rel F H Ω σ S w) (h : Dx .top F Ω H v d) : Dv β F.Ψ H v d := by
  rcases h with h | ⟨a, rfl, h0, h⟩
  · exact h.less R.base
  · have n : ¬ F.Ψ a := fun z => R.old a z h0
    cases d with
    | list ds =>
      obtain ⟨vs, h1, h2, h3⟩ := h
      exact .lst h1 n h2 (h3.less R.base)
    | dict ps =>
      rcases h with ⟨kvs, ds, h1, h2, h3, rfl⟩ | ⟨kvs, ds, h1, h2, h3, rfl⟩
      · exact .dK (.inl h1) n h2 (h3.less R.base)
      · exact .dT (.inl h1) n h2 (h3.less R.base)
    | _ => exact False.elim h
theorem Rel.out (R : Rel F H Ω σ S w) : Evs F.st F.H0 H := fun a o h n => R.ext a o h n
theorem Rel.setOwn (R : Rel F H Ω σ S w) {a : Addr} {d : PyData} (i : Nat) (h1 : Ω a) (h2 : F.H0 a = none) (h3 : OwnAt β Ω H a d) (hn : ∀ (j : Nat) (e : PyData), i ≠ j → S[j]? = some (.own e) → σ[j]? ≠ some (some (.ref a))) :
    Rel F H Ω (σ.set i (some (.ref a))) (S.set i (.own d)) w := by
  have at_ : ∀ (j : Nat) (sl : Sl), (S.set i (.own d))[j]? = some sl → (i = j ∧ i < S.length ∧ sl = .own d) ∨ (i ≠ j ∧ S[j]? = some sl) := fun j sl k => by
    by_cases hj : i = j
    · subst hj
      rw [List.getElem?_set] at k
      simp only [if_true] at k
      split at k
      · rename_i hl; cases k; exact .inl ⟨rfl, hl, rfl⟩
      · cases k
    · rw [List.getElem?_set_ne hj] at k
      exact .inr ⟨hj, k⟩
  refine ⟨R.ext, R.base, R.dom, R.old, by rw [List.length_set, List.length_set]; exact R.len, fun j sl k => ?_, fun j1 j2 d1 d2 b k1 k2 s1 s2 => ?_, R.wok⟩
  · rcases at_ j sl k with ⟨rfl, hl, rfl⟩ | ⟨hj, k⟩
    · exact ⟨a, by rw [List.getElem?_set_self (by rw [← R.len]; exact hl)], h1, h2, h3⟩
    · have q := R.slot j sl k
      cases sl with
      | no => trivial
      | val e => obtain ⟨u, q1, q2⟩ := q; exact ⟨u, by rw [List.getElem?_set_ne hj]; exact q1, q2⟩
      | own e => obtain ⟨a, q1, q2, q3, q4⟩ := q; exact ⟨a, by rw [List.getElem?_set_ne hj]; exact q1, q2, q3, q4⟩
      | stt => obtain ⟨a, q1, q2⟩ := q; exact ⟨a, q1, by rw [List.getElem?_set_ne hj]; exact q2⟩
      | raw v => exact (List.getElem?_set_ne hj).trans q
  · rcases at_ j1 _ k1 with ⟨rfl, hl, _⟩ | ⟨hj1, k1⟩
    · rcases at_ j2 _ k2 with ⟨rfl, _, _⟩ | ⟨hj2, k2⟩
      · rfl
      · rw [List.getElem?_set_self (by rw [← R.len]; exact hl)] at s1
        cases s1
        rw [List.getElem?_set_ne hj2] at s2
        exact absurd s2 (hn j2 d2 hj2 k2)
    · rw [List.getElem?_set_ne hj1] at s1
      rcases at_ j2 _ k2 with ⟨rfl, hl, _⟩ | ⟨hj2, k2⟩
      · rw [List.getElem?_set_self (by rw [← R.len]; exact hl)] at s2
        cases s2
        exact absurd s1 (hn j1 d1 hj1 k1)
      · rw [List.getElem?_set_ne hj2] at s2
        exact R.uniq j1 j2 d1 d2 b k1 k2 s1 s2
/-- a new object into a slot -/
theorem Rel.setNew {a : Addr} {d : PyData} (R : Rel F H Ω σ S w) (R' : Rel F H' Ω σ S w') (e : Evs F.st H H') (hn : H a = none) (h : OwnAt β (Also Ω a) H' a d) (i : Nat) : Rel F H' (Also Ω a) (σ.set i (some (.ref a))) (S.set i (.own d)) w' := by
  have h0 : F.H0 a = none := by
    cases q0 : F.H0 a with
    | none => rfl
    | some o =>
      by_cases hz : F.st = some a
      · exact absurd hn (R.dom a (R.stΨ hz).2)
      · rw [R.ext a o q0 hz] at hn; cases hn
  refine (R.also hn e R'.wok (by obtain ⟨o, ho⟩ := h.some; rw [ho]; exact fun z => nomatch z)).setOwn i (.inr rfl) h0 h fun j e _ k s => ?_
  obtain ⟨b, q1, _, _, q4⟩ := R.slot j _ k
  rw [s] at q1
  cases q1
  obtain ⟨o, ho⟩ := q4.some
  rw [hn] at ho; cases ho
theorem Rel.grown {a : Addr} (R : Rel F H Ω σ S w) (e : Evs F.st H H') (hn : H a = none) : Grow Ω H (Also Ω a) H' := ⟨fun b h => h.elim .inl fun z => .inr (by rw [z]; exact hn), R.evo e⟩
/-- an own object is given away: a value from now on -/
theorem Rel.frz (R : Rel F H Ω σ S w) (i : Nat) : ∃ Ω', Rel F H Ω' σ (Mini.frz i S) w ∧ Grow Ω H Ω' H := by
  unfold Mini.frz
  split
  · rename_i d hi
    obtain ⟨a, s1, s2, s3, s4⟩ := R.slot i _ hi
    refine ⟨fun b => Ω b ∧ b ≠ a, ?_, ⟨fun b h => .inl h.1, Evo.refl _ _⟩⟩
    have g : Grow Ω H (fun b => Ω b ∧ b ≠ a) H := ⟨fun b h => .inl h.1, Evo.refl _ _⟩
    have hl : i < S.length := (List.getElem?_eq_some_iff.mp hi).1
    have n : ¬ (Ω a ∧ a ≠ a) := fun z => z.2 rfl
    have own : ∀ {vs ds}, DvA β Ω H vs ds → DvA β (fun b => Ω b ∧ b ≠ a) H vs ds := fun h => h.grow g
    have dv : Dv β (fun b => Ω b ∧ b ≠ a) H (.ref a) d := by
      cases d with
      | list ds =>
        obtain ⟨vs, h1, h2, h3⟩ := s4
        exact .lst h1 n h2 (own h3)
      | dict ps =>
        rcases s4 with ⟨kvs, ds, h1, h2, h3, rfl⟩ | ⟨kvs, ds, h1, h2, h3, rfl⟩
        · exact .dK (.inl h1) n h2 (own h3)
        · exact .dT (.inl h1) n h2 (own h3)
      | _ => exact False.elim s4
    have at_ : ∀ (j : Nat) (sl : Sl), (S.set i (.val d))[j]? = some sl → (i = j ∧ sl = .val d) ∨ (i ≠ j ∧ S[j]? = some sl) := fun j sl k => by
      by_cases hj : i = j
      · subst hj
        rw [List.getElem?_set_self hl] at k
        cases k; exact .inl ⟨rfl, rfl⟩
      · rw [List.getElem?_set_ne hj] at k
        exact .inr ⟨hj, k⟩
    refine ⟨R.ext, fun b h => ⟨R.base b h, fun z => R.old b h (by rw [z]; exact s3)⟩, fun b h => R.dom b h.1, R.old, by rw [List.length_set]; exact R.len, fun j sl k => ?_, fun j1 j2 d1 d2 b k1 k2 => ?_, R.wok⟩
    · rcases at_ j sl k with ⟨rfl, rfl⟩ | ⟨hj, k⟩
      · exact ⟨_, s1, dv⟩
      · have q := R.slot j sl k
        cases sl with
        | no => trivial
        | val e => obtain ⟨u, q1, q2⟩ := q; exact ⟨u, q1, q2.grow g⟩
        | own e =>
          obtain ⟨b, q1, q2, q3, q4⟩ := q
          refine ⟨b, q1, ⟨q2, fun z => ?_⟩, q3, q4.grow g rfl⟩
          rw [z] at q1
          exact hj (R.uniq i j d e a hi k s1 q1)
        | stt => exact q
        | raw v => exact q
    · rcases at_ j1 _ k1 with ⟨_, z⟩ | ⟨_, k1⟩
      · cases z
      · rcases at_ j2 _ k2 with ⟨_, z⟩ | ⟨_, k2⟩
        · cases z
        · exact R.uniq j1 j2 d1 d2 b k1 k2
  · exact ⟨Ω, R, Grow.refl _ _⟩
/-- an own object turned -/
theorem Rel.updOwn (R : Rel F H Ω σ S w) {i : Nat} {a : Addr} {d d' : PyData} {o : HO} (hi : S[i]? = some (.own d)) (hs : σ[i]? = some (some (.ref a))) (ho : OwnAt β Ω (upd H a o) a d') : Rel F (upd H a o) Ω σ (S.set i (.own d')) w ∧ Grow Ω H Ω (upd H a o) := by
  obtain ⟨b, s1, s2, s3, s4⟩ := R.slot i _ hi
  rw [hs] at s1
  cases s1
  have hl : i < S.length := (List.getElem?_eq_some_iff.mp hi).1
  have g : Grow Ω H Ω (upd H a o) := ⟨fun b h => .inl h, fun b u h n => by rw [upd_ne (fun z => n (by rw [z]; exact s2))]; exact h⟩
  have at_ : ∀ (j : Nat) (sl : Sl), (S.set i (.own d'))[j]? = some sl → (i = j ∧ sl = .own d') ∨ (i ≠ j ∧ S[j]? = some sl) := fun j sl k => by
    by_cases hj : i = j
    · subst hj
      rw [List.getElem?_set_self hl] at k
      cases k; exact .inl ⟨rfl, rfl⟩
    · rw [List.getElem?_set_ne hj] at k
      exact .inr ⟨hj, k⟩
  have own_ : ∀ (j : Nat) (e : PyData), (S.set i (Sl.own d'))[j]? = some (Sl.own e) → ∃ e' : PyData, S[j]? = some (Sl.own e') := fun j e k => by
    rcases at_ j _ k with ⟨rfl, _⟩ | ⟨_, k⟩
    · exact ⟨d, hi⟩
    · exact ⟨e, k⟩
  have nP : ∀ b, F.Ψ b → b ≠ a := fun b h z => R.old b h (by rw [z]; exact s3)
  refine ⟨⟨fun b u h n => ?_, R.base, fun b h => ?_, R.old, by rw [List.length_set]; exact R.len, fun j sl k => ?_, fun j1 j2 d1 d2 b k1 k2 => ?_, ?_⟩, g⟩
  · rw [upd_ne (fun z => by rw [z, s3] at h; cases h)]
    exact R.ext b u h n
  · by_cases z : b = a
    · rw [z, upd_same]; exact fun z => nomatch z
    · rw [upd_ne z]; exact R.dom b h
  · rcases at_ j sl k with ⟨rfl, rfl⟩ | ⟨hj, k⟩
    · exact ⟨a, hs, s2, s3, ho⟩
    · have q := R.slot j sl k
      cases sl with
      | no => trivial
      | val e => obtain ⟨u, q1, q2⟩ := q; exact ⟨u, q1, q2.grow g⟩
      | own e =>
        obtain ⟨b, q1, q2, q3, q4⟩ := q
        have hb : b ≠ a := fun z => by
          rw [z] at q1
          exact hj (R.uniq i j d e a hi k hs q1)
        exact ⟨b, q1, q2, q3, q4.grow g (upd_ne hb)⟩
      | stt => exact q
      | raw v => exact q
  · obtain ⟨e1, k1⟩ := own_ j1 _ k1
    obtain ⟨e2, k2⟩ := own_ j2 _ k2
    exact R.uniq j1 j2 e1 e2 b k1 k2
  · cases hst : F.st with
    | none => trivial
    | some s =>
      have k := R.wok
      rw [hst] at k
      obtain ⟨k0, k1, k2, k3, k4, k5⟩ := k
      exact ⟨k0, k1, k2, by rw [upd_ne (nP _ k0)]; exact k3, by rw [upd_ne (nP _ k1)]; exact k4, k5⟩
end

/-! ### the rules -/
section
variable {β : Bool} {X : Cx} {e a b c tg iter : Expr} {es : List Expr} {st : Stmt} {sts body : List Stmt} {pos p1 p2 p3 px apos cpos : Pos} {r : Strg} {z : Bool} {m me : ME} {mr : MA} {mt : MT} {ms ma mb : MS} {p : MG} {x y : Str} {i j : Nat}
theorem db_nil : DB β X [] sNx := pss_imp pss_nil fun D σ H ⟨F, Ω, S, w, fl, S', w', R, hm, q⟩ => by
  cases hm
  exact q σ H Ω R (Grow.refl _ _)
theorem db_cons (h1 : DS β X st ma) (h2 : DB β X sts mb) : DB β X (st :: sts) (sSeq ma mb) := pss_imp (pss_cons h1 h2) fun D σ H ⟨F, Ω, S, w, fl, S', w', R, hm, q⟩ => by
  unfold sSeq at hm
  obtain ⟨⟨f1, S1, w1⟩, h3, hm⟩ := Option.bind_eq_some_iff.mp hm
  cases f1 with
  | nx => exact ⟨F, Ω, S, w, .nx, S1, w1, R, h3, fun σ' H' Ω' R' g => ⟨F, Ω', S1, w1, fl, S', w', R', hm, q.mono g⟩⟩
  | bk => cases hm; exact ⟨F, Ω, S, w, .bk, _, _, R, h3, q⟩
  | ct => cases hm; exact ⟨F, Ω, S, w, .ct, _, _, R, h3, q⟩
  | rt d => cases hm; exact ⟨F, Ω, S, w, .rt d, _, _, R, h3, q⟩
theorem db_one (h1 : DS β X st ma) : DB β X [st] ma := pss_one h1
theorem db_no : DB β X sts sNo := ⟨fun pins s σ H D I ⟨F, Ω, S, w, fl, S', w', R, hm, q⟩ => by cases hm⟩
theorem ds_no : DS β X st sNo := ⟨fun pins s σ H D I ⟨F, Ω, S, w, fl, S', w', R, hm, q⟩ => by cases hm⟩
theorem ds_pass : DS β X (.Pass pos) sNx := ps_imp ps_pass fun D σ H ⟨F, Ω, S, w, fl, S', w', R, hm, q⟩ => by
  cases hm
  exact q σ H Ω R (Grow.refl _ _)
theorem ds_break : DS β X (.Break pos) sBk := ps_imp ps_break fun D σ H ⟨F, Ω, S, w, fl, S', w', R, hm, q⟩ => by
  cases hm
  exact q σ H Ω R (Grow.refl _ _)
theorem ds_cont : DS β X (.Continue pos) sCt := ps_imp ps_continue fun D σ H ⟨F, Ω, S, w, fl, S', w', R, hm, q⟩ => by
  cases hm
  exact q σ H Ω R (Grow.refl _ _)
theorem ds_if (hc : DT β X c mt) (ha : DB β X sts ma) (hb : DB β X body mb) : DS β X (.If c sts body pos) (sIf mt ma mb) := ps_imp (ps_if hc ha hb) fun D σ H ⟨F, Ω, S, w, fl, S', w', R, hm, q⟩ => by
  unfold sIf at hm
  obtain ⟨⟨k, w1⟩, h1, hm⟩ := Option.bind_eq_some_iff.mp hm
  refine ⟨F, Ω, S, w, w1, k, R, h1, fun H1 R1 e1 => ?_⟩
  cases k with
  | true => exact iteT ⟨F, Ω, S, w1, fl, S', w', R1, hm, q.mono (R.grow e1)⟩
  | false => exact iteF ⟨F, Ω, S, w1, fl, S', w', R1, hm, q.mono (R.grow e1)⟩
theorem ds_ret (h : DE β .top X e me) : DS β X (.Return (some e) pos) (sRet me) := ps_imp (ps_ret h) fun D σ H ⟨F, Ω, S, w, fl, S', w', R, hm, q⟩ => by
  unfold sRet at hm
  obtain ⟨⟨d, w1⟩, h1, hm⟩ := Option.map_eq_some_iff.mp hm
  cases hm
  exact ⟨F, Ω, S, w, _, d, R, h1, fun v H1 R1 e1 hv => q v H1 R1.out R1.wok (hv.leave R1)⟩
theorem ds_retN : DS β X (.Return none pos) sRetN := ps_imp ps_retN fun D σ H ⟨F, Ω, S, w, fl, S', w', R, hm, q⟩ => by
  cases hm
  exact q .non H R.out R.wok .non
theorem ds_drop (h : DE β r X e me) (hs : swapsWith e none pos.line X.env = pure false := by rfl) : DS β X (.Expr e pos) (sDrop me) := ps_imp (ps_expr h hs) fun D σ H ⟨F, Ω, S, w, fl, S', w', R, hm, q⟩ => by
  unfold sDrop at hm
  obtain ⟨⟨d, w1⟩, h1, hm⟩ := Option.map_eq_some_iff.mp hm
  cases hm
  exact ⟨F, Ω, S, w, _, d, R, h1, fun v H1 R1 e1 hv => q σ H1 Ω R1 (R.grow e1)⟩
theorem asg_imp {us : List Nat} {D : Ends} {σ : L2.St} {H : Hp} (h : tSv β (sAsg me p) D σ H) : tAsg (tEv β .esc me) (tPat β false us p) D σ H := by
  obtain ⟨F, Ω, S, w, fl, S', w', R, hm, q⟩ := h
  unfold sAsg at hm
  obtain ⟨⟨d, w1⟩, h1, hm⟩ := Option.bind_eq_some_iff.mp hm
  obtain ⟨S1, h2, hm⟩ := Option.map_eq_some_iff.mp hm
  cases hm
  exact ⟨F, Ω, S, w, _, d, R, h1, fun v H1 R1 e1 hv => ⟨F, Ω, S, _, d, _, R1, hv, h2, fun σ' R2 sb => q σ' H1 Ω R2 (R.grow e1)⟩⟩
theorem ds_asg {us : List Nat} (he : DE β .esc X e me) (hg : DG β false us X tg p) (hs : swapsWithSole [tg] e pos.line X.env = pure false := by rfl) (hw : swappedStores [tg] e X.env = pure none := by rfl)
    (h1 : (assignEach [tg] X.env).map (·.2) = [assign tg X.env] := by rfl) : DS β X (.Assign [tg] e pos) (sAsg me p) := ps_imp (ps_asg he hg hs hw h1) fun _ _ _ h => asg_imp h
/-- name = [.. for ..] on one line -/
theorem ds_lc {elt : Expr} {ifs : List Expr} {scope : Scope} {own : List (Str × Nat)} {py spos : Pos} {mi : MA} {m1 : MT} {zz : Bool} (hc : X.calm = true) (hN : X.N.Nodup) (hy : X.N[i]? = some y) (hyl : X.env.scope.names.lookup y = some .local)
    (hsw : swapsWith (.ListComp elt [⟨tg, iter, ifs, 0⟩] scope pos) (some (.Name y py)) spos.line X.env = pure true) (hi : DI β zz .top X tg iter mi) (ok : BlkOk X.N X.env.scope scope own)
    (hg : ∀ (s : Shared) (H : Hp) (C : Addr) (cl : List (Str × Addr)) (fp : List Addr), DG β zz (own.map (·.2)) (X.blk s H scope (compEnvC scope cl C X.env) fp) tg p) (ht : ∀ (s : Shared) (H : Hp) (C : Addr) (cl : List (Str × Addr)) (fp : List Addr), DTs β (X.blk s H scope (compEnvC scope cl C X.env) fp) ifs m1)
    (he : ∀ (s : Shared) (H : Hp) (C : Addr) (cl : List (Str × Addr)) (fp : List Addr), DE β .esc (X.blk s H scope (compEnvC scope cl C X.env) fp) elt me) (hs : ∀ x, foldedSetIterable iter X.env x = pure x := by intro _; rfl) :
    DS β X (.Assign [.Name y py] (.ListComp elt [⟨tg, iter, ifs, 0⟩] scope pos) spos) (sAsg (mLc mi p m1 me (own.map (·.2))) (pName i)) := ps_imp (ps_setLc hc hN hy hyl hsw hi ok hg ht he hs) fun D σ H ⟨F, Ω, S, w, fl, S', w', R, hm, q⟩ => by
  unfold sAsg at hm
  obtain ⟨⟨d, w1⟩, h1, hm⟩ := Option.bind_eq_some_iff.mp hm
  obtain ⟨S1, h2, hm⟩ := Option.map_eq_some_iff.mp hm
  cases hm
  cases h2
  refine lc_fr ⟨F, Ω, S, w, _, d, R, h1, fun a H1 R1 e1 hn ho => ?_⟩
  exact q _ H1 Ω (R1.setVal i (ho.dv fun z => R.dom a z hn)) (R.grow e1)
theorem ds_lcO {elt : Expr} {ifs : List Expr} {scope : Scope} {own : List (Str × Nat)} {py spos : Pos} {mi : MA} {m1 : MT} {zz : Bool} (hc : X.calm = true) (hN : X.N.Nodup) (hy : X.N[i]? = some y) (hyl : X.env.scope.names.lookup y = some .local)
    (hsw : swapsWith (.ListComp elt [⟨tg, iter, ifs, 0⟩] scope pos) (some (.Name y py)) spos.line X.env = pure true) (hi : DI β zz .top X tg iter mi) (ok : BlkOk X.N X.env.scope scope own)
    (hg : ∀ (s : Shared) (H : Hp) (C : Addr) (cl : List (Str × Addr)) (fp : List Addr), DG β zz (own.map (·.2)) (X.blk s H scope (compEnvC scope cl C X.env) fp) tg p) (ht : ∀ (s : Shared) (H : Hp) (C : Addr) (cl : List (Str × Addr)) (fp : List Addr), DTs β (X.blk s H scope (compEnvC scope cl C X.env) fp) ifs m1)
    (he : ∀ (s : Shared) (H : Hp) (C : Addr) (cl : List (Str × Addr)) (fp : List Addr), DE β .esc (X.blk s H scope (compEnvC scope cl C X.env) fp) elt me) (hs : ∀ x, foldedSetIterable iter X.env x = pure x := by intro _; rfl) :
    DS β X (.Assign [.Name y py] (.ListComp elt [⟨tg, iter, ifs, 0⟩] scope pos) spos) (sOwn i (mLc mi p m1 me (own.map (·.2)))) := ps_imp (ps_setLc hc hN hy hyl hsw hi ok hg ht he hs) fun D σ H ⟨F, Ω, S, w, fl, S', w', R, hm, q⟩ => by
  unfold sOwn at hm
  obtain ⟨⟨d, w1⟩, h1, hm⟩ := Option.map_eq_some_iff.mp hm
  cases hm
  refine lc_fr ⟨F, Ω, S, w, _, d, R, h1, fun a H1 R1 e1 hn ho => ?_⟩
  exact q _ H1 _ (R.setNew R1 e1 hn ho i) (R.grown e1 hn)
/-- name = a new object of the def's own -/
theorem ds_own (hN : X.N.Nodup) (hi : X.N[i]? = some x) (hx : Loc X.env.scope x) (he : DF β X e me) (hs : swapsWith e (some (.Name x px)) pos.line X.env = pure false := by rfl) (hf : X.fn x = true ∨ X.env.scope.names.lookup x = some .local := by first | exact .inl rfl | exact .inr rfl | assumption) :
    DS β X (.Assign [.Name x px] e pos) (sOwn i me) := ps_imp (ps_set hN hi hx he hs hf) fun D σ H ⟨F, Ω, S, w, fl, S', w', R, hm, q⟩ => by
  unfold sOwn at hm
  obtain ⟨⟨d, w1⟩, h1, hm⟩ := Option.map_eq_some_iff.mp hm
  cases hm
  exact ⟨F, Ω, S, w, _, d, R, h1, fun a H1 R1 e1 hn ho => q _ H1 _ (R.setNew R1 e1 hn ho i) (R.grown e1 hn)⟩
theorem ds_frz (h : DS β X st ms) (i : Nat) : DS β X st (sFrz i ms) := ps_imp h fun D σ H ⟨F, Ω, S, w, fl, S', w', R, hm, q⟩ => by
  obtain ⟨Ω', R', g⟩ := R.frz i
  exact ⟨F, Ω', _, w, fl, S', w', R', hm, q.mono g⟩
theorem ds_par {j : Nat} {kt k2 : Nat} (hc : X.calm = true) (hN : X.N.Nodup) (hi : X.N[i]? = some x) (hj : X.N[j]? = some y) (hij : i ≠ j)
    (hx : X.env.scope.names.lookup x = some .local) (hy : X.env.scope.names.lookup y = some .local) (ha : DA β .esc X [a, b] mr)
    (hw : swappedStores [.Tuple [.Name x px, .Name y p1] kt p2] (.Tuple [a, b] k2 p3) X.env = pure (some [x, y]))
    (hs : swapsWithSole [.Tuple [.Name x px, .Name y p1] kt p2] (.Tuple [a, b] k2 p3) pos.line X.env = pure false := by rfl) :
    DS β X (.Assign [.Tuple [.Name x px, .Name y p1] kt p2] (.Tuple [a, b] k2 p3) pos) (sPar i j mr) := ps_imp (ps_par hc hN hi hj hij hx hy ha hw hs) fun D σ H ⟨F, Ω, S, w, fl, S', w', R, hm, q⟩ => by
  unfold sPar at hm
  obtain ⟨⟨ds, w1⟩, h1, hm⟩ := Option.bind_eq_some_iff.mp hm
  match ds, h1, hm with
  | [d, e], h1, hm =>
    cases hm
    refine ⟨F, Ω, S, w, _, [d, e], R, h1, fun vs H1 R1 e1 hv => ?_⟩
    obtain ⟨v, u, rfl, q1, q2⟩ := hv.two
    exact ⟨v, u, rfl, q _ H1 Ω ((R1.setVal i q1).setVal j q2) (R.grow e1)⟩
theorem ds_par3 {j l : Nat} {v : Str} {p4 : Pos} {kt k2 : Nat} (hc : X.calm = true) (hN : X.N.Nodup) (hi : X.N[i]? = some x) (hj : X.N[j]? = some y) (hl : X.N[l]? = some v) (hij : i ≠ j) (hil : i ≠ l) (hjl : j ≠ l)
    (hx : X.env.scope.names.lookup x = some .local) (hy : X.env.scope.names.lookup y = some .local) (hz : X.env.scope.names.lookup v = some .local) (ha : DA β .esc X [a, b, c] mr)
    (hw : swappedStores [.Tuple [.Name x px, .Name y p1, .Name v p2] kt p3] (.Tuple [a, b, c] k2 p4) X.env = pure (some [x, y, v]))
    (hs : swapsWithSole [.Tuple [.Name x px, .Name y p1, .Name v p2] kt p3] (.Tuple [a, b, c] k2 p4) pos.line X.env = pure false := by rfl) :
    DS β X (.Assign [.Tuple [.Name x px, .Name y p1, .Name v p2] kt p3] (.Tuple [a, b, c] k2 p4) pos) (sPar3 i j l mr) := ps_imp (ps_par3 hc hN hi hj hl hij hil hjl hx hy hz ha hw hs) fun D σ H ⟨F, Ω, S, w, fl, S', w', R, hm, q⟩ => by
  unfold sPar3 at hm
  obtain ⟨⟨ds, w1⟩, h1, hm⟩ := Option.bind_eq_some_iff.mp hm
  match ds, h1, hm with
  | [d, e, f], h1, hm =>
    cases hm
    refine ⟨F, Ω, S, w, _, [d, e, f], R, h1, fun vs H1 R1 e1 hv => ?_⟩
    cases hv with
    | cons q0 t =>
      obtain ⟨v, u, rfl, q1, q2⟩ := t.two
      exact ⟨_, v, u, rfl, q _ H1 Ω (((R1.setVal i q0).setVal j q1).setVal l q2) (R.grow e1)⟩
/-- name op= e -/
theorem ds_aug {op : Operator} {rl : R2} {g : PyData → PyData → Option PyData} (ho : OpR X (inplaceOp op) rl) (hg : Op2 β .esc r rl g) (hN : X.N.Nodup) (hi : X.N[i]? = some x) (hx : Loc X.env.scope x) (he : DE β r X e me)
    (hf : X.fn x = true ∨ X.env.scope.names.lookup x = some .local := by first | exact .inl rfl | exact .inr rfl | assumption) : DS β X (.AugAssign (.Name x px) op e pos) (sAug g i me) := ps_imp (ps_aug hN hi hx he ho hf) fun D σ H ⟨F, Ω, S, w, fl, S', w', R, hm, q⟩ => by
  unfold sAug at hm
  split at hm
  · rename_i d hs
    obtain ⟨⟨d2, w1⟩, h1, hm⟩ := Option.bind_eq_some_iff.mp hm
    obtain ⟨d3, h2, hm⟩ := Option.map_eq_some_iff.mp hm
    cases hm
    obtain ⟨v, s1, s2⟩ := R.slot i _ hs
    refine ⟨v, s1, F, Ω, S, w, _, d2, R, h1, fun u H1 R1 e1 hu => ?_⟩
    refine hg F H1 Ω σ S _ v u d d2 d3 _ R1 (Dv.grow (R.grow e1) s2) hu h2 fun t H2 e2 ht => ?_
    exact q _ H2 Ω ((R1.ex e2).setVal i ht) ((R.grow e1).trans (Ext.grow e2))
  · cases hm
theorem ds_augAdd (hN : X.N.Nodup) (hi : X.N[i]? = some x) (hx : Loc X.env.scope x) (he : DE β r X e me)
    (hf : X.fn x = true ∨ X.env.scope.names.lookup x = some .local := by first | exact .inl rfl | exact .inr rfl | assumption) : DS β X (.AugAssign (.Name x px) .Add e pos) (sAug (fun a b => match a, b with | .int i, .int j => some (.int (i + j)) | _, _ => none) i me) :=
  ds_aug (rl := rI0 fun i j => .int (i + j)) (fun pins s σ H x y v u Q I rx ry h => by
    obtain ⟨i, j, e1, e2, q⟩ := h
    exact ip_add pins s σ H x y v u Q I rx ry ⟨i, j, e1, e2, q⟩) (op_ii (gd := fun i j => .int (i + j)) (fun a b d h => by
  cases a <;> first | (cases h; done) | (cases b <;> first | (cases h; exact ⟨_, _, rfl, rfl, rfl⟩) | cases h)) fun _ _ _ _ _ => .int _) hN hi hx he hf
theorem ds_augSub (hN : X.N.Nodup) (hi : X.N[i]? = some x) (hx : Loc X.env.scope x) (he : DE β r X e me)
    (hf : X.fn x = true ∨ X.env.scope.names.lookup x = some .local := by first | exact .inl rfl | exact .inr rfl | assumption) : DS β X (.AugAssign (.Name x px) .Sub e pos) (sAug dSub i me) :=
  ds_aug (rl := rI0 fun i j => .int (i - j)) (fun pins s σ H x y v u Q I rx ry h => by
    obtain ⟨i, j, e1, e2, q⟩ := h
    exact ip_sub pins s σ H x y v u Q I rx ry ⟨i, j, e1, e2, q⟩) op_sub' hN hi hx he hf
def dMulI : PyData → PyData → Option PyData
  | .int i, .int j => if mulOk i j then some (.int (i * j)) else none
  | _, _ => none
theorem ds_augMul (hN : X.N.Nodup) (hi : X.N[i]? = some x) (hx : Loc X.env.scope x) (he : DE β r X e me)
    (hf : X.fn x = true ∨ X.env.scope.names.lookup x = some .local := by first | exact .inl rfl | exact .inr rfl | assumption) : DS β X (.AugAssign (.Name x px) .Mult e pos) (sAug dMulI i me) :=
  ds_aug iop_mulW (op_iic (gd := fun i j => .int (i * j)) (fun a b d h => by
  cases a <;> first | (cases h; done) | (cases b <;> first | (obtain ⟨hc, e⟩ := ite_some h; exact ⟨_, _, rfl, rfl, hc, e.symm⟩) | cases h)) fun _ _ _ _ _ => .int _) hN hi hx he hf

/-! own lists turned -/
theorem upd_own {F : Fx β} {Ω : AS} {H : Hp} {a : Addr} {vs : List V} {ds : List PyData} (ha : Ω a) (hl : ds.length ≤ LB) (h : DvA β Ω H vs ds) : OwnAt β Ω (upd H a (.lst vs)) a (.list ds) :=
  ⟨vs, upd_same, by rw [h.length]; exact hl, h.grow ⟨fun b h => .inl h, fun b u k n => by rw [upd_ne (fun z => n (by rw [z]; exact ha))]; exact k⟩⟩
theorem ds_append (hv : PE X (.Name x px) (tVar i)) (he : DE β .esc X e me) (hs : swapsWith (.Call (.Attribute (.Name x px) "append" apos) [e] [] cpos) none pos.line X.env = pure false := by rfl)
    (hbase : attributeBase (.Name x px) "append" X.env (eval (.Name x px) X.env) = eval (.Name x px) X.env := by rfl)
    (hfew : ((backTo cpos (starEach [e] X.env)).all (fun x => !x.1) && (backToKw cpos (keywordEach [] X.env)).all (fun x => x.1.isSome) && decide ([e].length + ([] : List Keyword).length + (if ([] : List Keyword).isEmpty then 0 else 1) < 30)) = true := by rfl)
    (hline : (apos.endLine == cpos.line) = true := by rfl) (hst : starEach [e] X.env = (false, eval e X.env) :: starEach [] X.env := by rfl) :
    DS β X (.Expr (.Call (.Attribute (.Name x px) "append" apos) [e] [] cpos) pos) (sApp i me) :=
  ps_imp (ps_expr (pe_bm PySem.F.plainAttrs_list PySem.F.slot_list_append PySem.F.type_list_append mt_append hv (da_cons he da_nil hst) hbase hfew hline hst (by rfl)) hs) fun D σ H ⟨F, Ω, S, w, fl, S', w', R, hm, q⟩ => by
  unfold sApp at hm
  split at hm
  · rename_i ds hi
    obtain ⟨⟨d, w1⟩, h1, hm⟩ := Option.bind_eq_some_iff.mp hm
    obtain ⟨hl, hm⟩ := ite_some hm
    cases hm
    obtain ⟨a, s1, s2, s3, vs, s4, _⟩ := R.slot i _ hi
    refine ⟨_, s1, .inl ⟨rfl, vs, .of s4⟩, F, Ω, S, w, w1, [d], R, by unfold mCons mNil; rw [h1]; rfl, fun us H1 R1 e1 hu => ?_⟩
    obtain ⟨u, rfl, hu1⟩ := hu.one
    obtain ⟨a', t1, t2, t3, vs1, t4, t5, t6⟩ := R1.slot i _ hi
    rw [s1] at t1
    cases t1
    refine ⟨a, vs1, u, rfl, rfl, t4, LB_lt (by rw [t6.length]; omega), ?_⟩
    obtain ⟨R2, g2⟩ := R1.updOwn (o := .lst (vs1 ++ [u])) hi s1 (upd_own (F := F) t2 (by rw [List.length_append]; exact hl) (t6.append (.cons hu1 .nil)))
    exact q σ _ Ω R2 ((R.grow e1).trans g2)
  · cases hm
theorem ds_extend (hv : PE X (.Name x px) (tVar i)) (he : DE β .top X e me) (hs : swapsWith (.Call (.Attribute (.Name x px) "extend" apos) [e] [] cpos) none pos.line X.env = pure false := by rfl)
    (hbase : attributeBase (.Name x px) "extend" X.env (eval (.Name x px) X.env) = eval (.Name x px) X.env := by rfl)
    (hfew : ((backTo cpos (starEach [e] X.env)).all (fun x => !x.1) && (backToKw cpos (keywordEach [] X.env)).all (fun x => x.1.isSome) && decide ([e].length + ([] : List Keyword).length + (if ([] : List Keyword).isEmpty then 0 else 1) < 30)) = true := by rfl)
    (hline : (apos.endLine == cpos.line) = true := by rfl) (hst : starEach [e] X.env = (false, eval e X.env) :: starEach [] X.env := by rfl) :
    DS β X (.Expr (.Call (.Attribute (.Name x px) "extend" apos) [e] [] cpos) pos) (sExt i me) :=
  ps_imp (ps_expr (pe_bm PySem.F.plainAttrs_list PySem.F.slot_list_extend PySem.F.type_list_extend mt_extend hv (da_cons he da_nil hst) hbase hfew hline hst (by rfl)) hs) fun D σ H ⟨F, Ω, S, w, fl, S', w', R, hm, q⟩ => by
  unfold sExt at hm
  split at hm
  · rename_i ds hi
    obtain ⟨⟨d, w1⟩, h1, hm⟩ := Option.bind_eq_some_iff.mp hm
    cases d with
    | list es =>
      obtain ⟨hl, hm⟩ := ite_some hm
      cases hm
      obtain ⟨a, s1, s2, s3, vs, s4, _⟩ := R.slot i _ hi
      refine ⟨_, s1, .inl ⟨rfl, vs, .of s4⟩, F, Ω, S, w, w1, [.list es], R, by unfold mCons mNil; rw [h1]; rfl, fun us H1 R1 e1 hu => ?_⟩
      obtain ⟨u, rfl, hu1⟩ := hu.one
      obtain ⟨a', t1, t2, t3, vs1, t4, t5, t6⟩ := R1.slot i _ hi
      obtain ⟨b, us, rfl, u1, u2, u3⟩ := hu1.lst_inv
      rw [s1] at t1
      cases t1
      refine ⟨a, b, vs1, us, rfl, rfl, t4, u1, LB_line (by rw [t6.length, u3.length]; exact hl), ?_⟩
      obtain ⟨R2, g2⟩ := R1.updOwn (o := .lst (vs1 ++ us)) hi s1 (upd_own (F := F) t2 (by rw [List.length_append]; exact hl) (t6.append u3))
      exact q σ _ Ω R2 ((R.grow e1).trans g2)
    | _ => cases hm
  · cases hm
theorem ds_setIx {k : Expr} {mk : ME} (hv : PE X (.Name x px) (tVar i)) (hk : DE β r X k mk) (he : DE β .esc X e me)
    (ha : ∀ v, assign (.Subscript (.Name x px) k p1) X.env v = (do
      let ov ← holding [v] (eval (.Name x px) X.env)
      let iv ← holding [v, ov] (eval k X.env)
      standAt p1
      holding [v, ov, iv] (setItem ov iv v)
      release [v, ov, iv] []) := by intro _; rfl) (hs : swapsWithSole [.Subscript (.Name x px) k p1] e pos.line X.env = pure false := by rfl) (hw : swappedStores [.Subscript (.Name x px) k p1] e X.env = pure none := by rfl)
    (h1 : (assignEach [.Subscript (.Name x px) k p1] X.env).map (·.2) = [assign (.Subscript (.Name x px) k p1) X.env] := by rfl) : DS β X (.Assign [.Subscript (.Name x px) k p1] e pos) (sSetIx i mk me) :=
  ps_imp (ps_asg he (pg_sub hv hk set_list ha) hs hw h1) fun D σ H ⟨F, Ω, S, w, fl, S', w', R, hm, q⟩ => by
  unfold sSetIx at hm
  obtain ⟨⟨d, w1⟩, h1, hm⟩ := Option.bind_eq_some_iff.mp hm
  refine ⟨F, Ω, S, w, w1, d, R, h1, fun u H1 R1 e1 hu => ?_⟩
  dsimp only at hm
  split at hm
  · rename_i ds hi
    obtain ⟨⟨n, w2⟩, h2, hm⟩ := Option.bind_eq_some_iff.mp hm
    cases n with
    | int n =>
      obtain ⟨jj, h3, hm⟩ := Option.map_eq_some_iff.mp hm
      cases hm
      obtain ⟨a, s1, s2, s3, vs, s4, _⟩ := R1.slot i _ hi
      refine ⟨_, s1, F, Ω, S, w1, _, .int n, R1, h2, fun kv H2 R2 e2 hk2 => ?_⟩
      obtain ⟨a', t1, t2, t3, vs1, t4, t5, t6⟩ := R2.slot i _ hi
      rw [s1] at t1
      cases t1
      refine ⟨a, vs1, n, jj, rfl, hk2.int_inv, t4, by rw [t6.length]; exact h3, ?_⟩
      have hu2 : Dv β Ω H2 u d := Dv.grow (R1.grow e2) hu
      obtain ⟨R3, g3⟩ := R2.updOwn (o := .lst (vs1.set jj u)) hi s1 (upd_own (F := F) t2 (by rw [List.length_set, ← t6.length]; exact t5) (t6.set hu2 jj))
      exact q σ _ Ω R3 (((R.grow e1).trans (R1.grow e2)).trans g3)
    | _ => cases hm
  · cases hm

/-! loops -/
theorem for_walk {us : List Nat} {F : Fx β} {Ω : AS} {σ : L2.St} {S S' : SEnv} {w1 w' : Drw} {fl : Fl} {ds : List PyData} {J : It} {H1 : Hp} {D : Ends} (R1 : Rel F H1 Ω σ S w1) (wk : Walk z .esc F Ω J H1 ds) (hm : forGo p mb ds S w1 = some (fl, S', w')) (q : EndOk F Ω H1 D S' w' fl) :
    ∃ W : Nat → Nat → L2.St → Hp → Prop, (∃ m, W 0 m σ H1) ∧ ∀ i m σ H, W i m σ H →
      (J.stop i H ∧ D.nx σ H) ∨ (J.go i H ∧ ∃ N : L2.St → Hp → Prop, (∀ σ' H', N σ' H' → ∃ m', m' < m ∧ W (i + 1) m' σ' H') ∧ ∀ x H', J.yld i H x H' → tPat β z us p x σ H' fun σ2 H2 => tSv β mb { D with nx := N, ct := N, bk := D.nx } σ2 H2) := by
  let Pv : Nat → L2.St → Hp → Prop := fun i σ' H' => ∃ Ωi Si wi, Rel F H' Ωi σ' Si wi ∧ Grow Ω H1 Ωi H' ∧ forGo p mb (ds.drop i) Si wi = some (fl, S', w')
  refine ⟨fun i m σ' H' => m = ds.length - i ∧ i ≤ ds.length ∧ Pv i σ' H', ⟨ds.length, by simp, Nat.zero_le _, Ω, S, w1, R1, Grow.refl _ _, hm⟩, ?_⟩
  rintro i m σi Hi ⟨rfl, hi, Ωi, Si, wi, Ri, gi, hgo⟩
  have stay : Stay .esc F Ω H1 Ωi Hi := ⟨gi, fun z => nomatch z⟩
  by_cases hlt : i < ds.length
  · refine .inr ⟨wk.go _ _ i stay hlt, Pv (i + 1), fun σ' H' p' => ⟨ds.length - (i + 1), by omega, rfl, hlt, p'⟩, fun x H2 y => ?_⟩
    rw [List.drop_eq_getElem_cons hlt] at hgo
    unfold forGo at hgo
    obtain ⟨S1, g1, hgo⟩ := Option.bind_eq_some_iff.mp hgo
    obtain ⟨⟨f2, S2, w2⟩, g2, hgo⟩ := Option.bind_eq_some_iff.mp hgo
    obtain ⟨ex, hit⟩ := wk.yld _ _ i x H2 _ stay (List.getElem?_eq_getElem hlt) y
    refine ⟨F, Ωi, Si, wi, _, S1, Ri.ex ex, hit, g1, fun σ' R4 sb => ⟨F, Ωi, S1, wi, f2, S2, w2, R4, g2, ?_⟩⟩
    have g3 : Grow Ω H1 Ωi H2 := gi.trans (Ext.grow ex)
    cases f2 with
    | nx => exact fun σ5 H5 Ω5 R5 g5 => ⟨Ω5, S2, w2, R5, g3.trans g5, hgo⟩
    | ct => exact fun σ5 H5 Ω5 R5 g5 => ⟨Ω5, S2, w2, R5, g3.trans g5, hgo⟩
    | bk =>
      cases hgo
      exact fun σ5 H5 Ω5 R5 g5 => q σ5 H5 Ω5 R5 (g3.trans g5)
    | rt d =>
      cases hgo
      exact q
  · have e : i = ds.length := by omega
    subst e
    rw [List.drop_length] at hgo
    cases hgo
    exact .inl ⟨wk.stop _ _ _ stay (Nat.le_refl _), q σi Hi Ωi Ri gi⟩
theorem ds_for {us : List Nat} {mi : MA} (hp : PassesOwn (model X.prog X.w) X.A X.env X.xe) (hc : X.calm = true) (hi : DI β z .esc X tg iter mi) (hg : DG β z us X tg p) (hb : DB β X body mb)
    (hs : ∀ x, foldedSetIterable iter X.env x = pure x := by intro _; rfl) : DS β X (.For tg iter body [] pos) (sFor mi p mb) := ps_imp (ps_for hp hc hi hg hb hs) fun D σ H ⟨F, Ω, S, w, fl, S', w', R, hm, q⟩ => by
  unfold sFor at hm
  obtain ⟨⟨ds, w1⟩, h1, hm⟩ := Option.bind_eq_some_iff.mp hm
  exact ⟨F, Ω, S, w, w1, ds, R, h1, fun J H1 R1 e1 wk => for_walk R1 wk hm (q.mono (R.grow e1))⟩
theorem ds_while (n : Nat) (hp : PassesOwn (model X.prog X.w) X.A X.env X.xe) (hc : DT β X c mt) (hb : DB β X body mb) : DS β X (.While c body [] pos) (sWhile n mt mb) := ps_imp (ps_while hp hc hb) fun D σ H ⟨F, Ω, S, w, fl, S', w', R, hm, q⟩ => by
  unfold sWhile at hm
  let Pv : Nat → L2.St → Hp → Prop := fun k σ' H' => ∃ Ωi Si wi, Rel F H' Ωi σ' Si wi ∧ Grow Ω H Ωi H' ∧ whGo mt mb k Si wi = some (fl, S', w')
  refine ⟨Pv, ⟨n, Ω, S, w, R, Grow.refl _ _, hm⟩, ?_⟩
  rintro k σi Hi ⟨Ωi, Si, wi, Ri, gi, hgo⟩
  cases k with
  | zero => cases hgo
  | succ k =>
    unfold whGo at hgo
    obtain ⟨⟨b, w1⟩, h1, hgo⟩ := Option.bind_eq_some_iff.mp hgo
    refine ⟨F, Ωi, Si, wi, w1, b, Ri, h1, fun H1 R1 e1 => ?_⟩
    have g1 : Grow Ω H Ωi H1 := gi.trans (Ri.grow e1)
    cases b with
    | true =>
      simp only [if_true] at hgo ⊢
      obtain ⟨⟨f2, S2, w2⟩, g2, hgo⟩ := Option.bind_eq_some_iff.mp hgo
      refine ⟨Pv k, fun σ' H' p' => ⟨k, Nat.lt_succ_self k, p'⟩, F, Ωi, Si, w1, f2, S2, w2, R1, g2, ?_⟩
      cases f2 with
      | nx => exact fun σ5 H5 Ω5 R5 g5 => ⟨Ω5, S2, w2, R5, g1.trans g5, hgo⟩
      | ct => exact fun σ5 H5 Ω5 R5 g5 => ⟨Ω5, S2, w2, R5, g1.trans g5, hgo⟩
      | bk =>
        cases hgo
        exact fun σ5 H5 Ω5 R5 g5 => q σ5 H5 Ω5 R5 (g1.trans g5)
      | rt d =>
        cases hgo
        exact q
    | false =>
      simp only [Bool.false_eq_true, if_false] at hgo ⊢
      cases hgo
      exact q σi H1 Ωi R1 g1
end
end Mini

set_option Elab.async false
set_option linter.all false
set_option maxRecDepth 100000
set_option maxHeartbeats 4000000
/-! Mini G: defs, calls of defs. -/
namespace Mini
open PySem PySem.Spec PyProof.Rows L2

/-! ### room, the guards known -/
structure RoomG (k : Nat) (A : Around) : Prop where
  rm : Room k A
  gd : A.guards = some []
theorem RoomG.mono {j k : Nat} {A : Around} (r : RoomG k A) (h : j ≤ k) : RoomG j A := ⟨r.rm.mono h, r.gd⟩
theorem RoomG.deep {k : Nat} {A : Around} (r : RoomG (k + 1) A) (env : Env) : RoomG k (A.deeper env) := ⟨r.rm.deeper env, r.gd⟩
abbrev SpG := List V → Hp → VK → Prop
structure FnG (P : Program) (w : World) (K : PySem.W.Frag) (mg : Str → Option Value) (base : Heap) (k : Nat) (f : Addr) (fd : FuncData) (ps : List Str) (sp : SpG) : Prop where
  len : ∀ vs H Q, sp vs H Q → vs.length = ps.length
  run : ∀ (A : Around) (outer : List Env) (s : Shared) (H : Hp) (args : Args) (us : List Value) (vs : List V) (Q : VK), RoomG k A → Env0 P w K mg base A outer s H → BindsTo s fd args (ps.zip us) → Vals vs us → sp vs H Q →
    codeAny (model P w) A (.call (.ref f) args) (CR CX0 outer P w H s Q E0) s
theorem FnG.mono {P : Program} {w : World} {K : PySem.W.Frag} {mg : Str → Option Value} {base : Heap} {j k : Nat} {f : Addr} {fd : FuncData} {ps : List Str} {sp : SpG} (F : FnG P w K mg base j f fd ps sp) (h : j ≤ k) : FnG P w K mg base k f fd ps sp :=
  ⟨F.len, fun A outer s H args us vs Q hr => F.run A outer s H args us vs Q (hr.mono h)⟩
section
variable {P : Program} {w : World} {K : PySem.W.Frag} {mg : Str → Option Value} {base : Heap} {k : Nat} {f : Addr} {fd : FuncData} {ps : List Str} {sp : SpG}
/-- a def, by its body -/
theorem fng_of {name qual : Str} {params : Arguments} {body : List Stmt} {scope : Scope} {dV kV doc pm cdv ct oc : Value} {an od : Option Addr} {osl : Array (Option Value)} {N : List Str}
    (lk : K.lookup f = some ⟨oc, od, .func (PySem.W.fnOf name qual params body scope dV kV doc pm an cdv ct), osl⟩) (hcd : PySem.W.codeIn K cdv qual = true) (S : FnScope N ps scope) (len : ∀ vs H Q, sp vs H Q → vs.length = ps.length)
    (hbody : ∀ (A : Around) (outer : List Env) (s : Shared) (H : Hp) (vs : List V) (Q : VK), RoomG k (A.deeper (envOfC qual scope s.heap.objs.size f cdv)) → sp vs H Q →
      ∃ t, PSs (cxOf CX0 P w K mg base N qual scope f cdv A outer s H E0).nox body t ∧ t { nx := fun _ H' => Q .non H', rt := Q } (L2.start N vs) H) :
    FnG P w K mg base (k + 1) f (PySem.W.fnOf name qual params body scope dV kV doc pm an cdv ct) ps sp := by
  refine ⟨len, fun A outer s H args us vs Q hr e0 hb r hsp => ?_⟩
  have lenV := len _ _ _ hsp
  have inK : K.In s.heap := e0.mod.kin.keeps fun b o h => (e0.bs b o h).1
  have noLim : s.heap.NoLimit := e0.mod.nolimit.keeps fun b o h => (e0.bs b o h).1
  have kinds : ∀ y ∈ ps.zip us, scope.names.lookup y.1 = some .local ∨ (scope.names.lookup y.1 = some .cell ∧ ((cellsFrom (s.heap.objs.size + 1) scope.names []).lookup y.1).isSome = true) := by
    rintro ⟨n, v⟩ hy
    rcases S.par n (List.of_mem_zip hy).1 with q | q
    · left; exact q
    · right; exact ⟨q, PySem.W.cellsFrom_some _ _ _ (.inl q)⟩
  refine codeAny_call_function hr.rm.depth (inK _ _ lk) rfl S.co S.gen rfl (PySem.W.codeRec_of inK hcd) (hb _ _ _ _ ?_)
  refine wpAny_newFunctionEnv_cells S.kind kinds fun env he s1 x => ?_
  subst he
  refine ⟨noLim.keeps x.toInCall.keep, codeAny_func ?_⟩
  obtain ⟨t, ht, hq⟩ := hbody A outer s H vs Q (hr.deep _) hsp
  have I : Inv (cxOf CX0 P w K mg base N qual scope f cdv A outer s H E0) [] (L2.start N vs) H s1 := inv_start S hr.rm.hd e0 lenV r x
  refine wpAny_mono (ht.nox.run [] s1 (L2.start N vs) H _ I hq) (fun fl s' hs => ?_) fun e s' hs => hs
  cases fl with
  | ret u =>
    obtain ⟨v, σ', H', J, rv, q⟩ := hs
    exact ⟨v, H', J.os, J.bare, J.base, J.hok, rv, q⟩
  | next =>
    obtain ⟨σ', H', J, q⟩ := hs
    exact ⟨.non, H', J.os, J.bare, J.base, J.hok, rfl, q⟩
  | brk =>
    obtain ⟨_, _, _, q⟩ := hs
    exact False.elim q
  | cont =>
    obtain ⟨_, _, _, q⟩ := hs
    exact False.elim q
theorem fng_fun {x qual : Str} {st : Stmt} {N : List Str} (F : Fun K x qual st f fd) (S : FnScope N ps (defScope st)) (len : ∀ vs H Q, sp vs H Q → vs.length = ps.length)
    (hbody : ∀ (cdv : Value) (A : Around) (outer : List Env) (s : Shared) (H : Hp) (vs : List V) (Q : VK), RoomG k (A.deeper (envOfC qual (defScope st) s.heap.objs.size f cdv)) → sp vs H Q →
      ∃ t, PSs (cxOf CX0 P w K mg base N qual (defScope st) f cdv A outer s H E0).nox (defBody st) t ∧ t { nx := fun _ H' => Q .non H', rt := Q } (L2.start N vs) H) : FnG P w K mg base (k + 1) f fd ps sp := by
  obtain ⟨oc, od, kV, doc, pm, an, cdv, ct, osl, rfl, lk, hcd⟩ := F.ex
  exact fng_of lk hcd S len (hbody cdv)
theorem fng_funD {x qual : Str} {params : Arguments} {body : List Stmt} {scope : Scope} {dvs : List V} {kws : List (Str × V)} {N : List Str} (F : FunD K x qual params body scope dvs kws f fd) (S : FnScope N ps scope) (len : ∀ vs H Q, sp vs H Q → vs.length = ps.length)
    (hbody : ∀ (cdv : Value) (A : Around) (outer : List Env) (s : Shared) (H : Hp) (vs : List V) (Q : VK), RoomG k (A.deeper (envOfC qual scope s.heap.objs.size f cdv)) → sp vs H Q →
      ∃ t, PSs (cxOf CX0 P w K mg base N qual scope f cdv A outer s H E0).nox body t ∧ t { nx := fun _ H' => Q .non H', rt := Q } (L2.start N vs) H) : FnG P w K mg base (k + 1) f fd ps sp := by
  obtain ⟨oc, od, dV, kV, doc, pm, an, cdv, ct, osl, rfl, lk, hcd, _, _⟩ := F.ex
  exact fng_of lk hcd S len (hbody cdv)
end

/-! ### what a def promises: plain data in, plain data out -/
def spM (β : Bool) (n : Nat) (G : List PyData → Option PyData) : SpG := fun vs H Q => ∃ (Ψ : AS) (ds : List PyData) (d : PyData), (∀ a, Ψ a → H a ≠ none) ∧ DvA β Ψ H vs ds ∧ ds.length = n ∧ G ds = some d ∧ ∀ v H', Ext H H' → Dv β Ψ H' v d → Q v H'
/-- the first parameter is the draws' state -/
def spS (β : Bool) (n : Nat) (G : List PyData → Drw → Option (PyData × Drw)) : SpG := fun vs H Q => ∃ (Ψ : AS) (s c : Addr) (us : List V) (w w' : Drw) (ds : List PyData) (d : PyData), vs = .ref s :: us ∧ WOk (some s) c Ψ H w ∧ (∀ a, Ψ a → H a ≠ none) ∧ DvA β Ψ H us ds ∧ ds.length = n ∧ G ds w = some (d, w') ∧
  ∀ v H', Evs (some s) H H' → WOk (some s) c Ψ H' w' → Dv β Ψ H' v d → Q v H'
theorem spM_len {β : Bool} {n : Nat} {G : List PyData → Option PyData} {ps : List Str} (h : ps.length = n) : ∀ vs H Q, spM β n G vs H Q → vs.length = ps.length := by
  rintro vs H Q ⟨Ψ, ds, d, _, h1, h2, _⟩
  rw [h1.length, h2, h]
theorem spS_len {β : Bool} {n : Nat} {G : List PyData → Drw → Option (PyData × Drw)} {ps : List Str} (h : ps.length = n + 1) : ∀ vs H Q, spS β n G vs H Q → vs.length = ps.length := by
  rintro vs H Q ⟨Ψ, s, c, us, w, w', ds, d, rfl, _, _, h1, h2, _⟩
  rw [List.length_cons, h1.length, h2, h]
def w0 : Drw := ⟨[], 0, 0, 0, 0, 0⟩
/-- the parameters' slots, then m others -/
def env0 (m : Nat) (ds : List PyData) : SEnv := ds.map .val ++ List.replicate m .no
def flD : Fl → Option PyData
  | .rt d => some d
  | .nx => some .none
  | _ => none
def runM (m : Nat) (b : MS) (ds : List PyData) : Option PyData := (b (env0 m ds) w0).bind fun r => flD r.1
def runS (m : Nat) (b : MS) (ds : List PyData) (w : Drw) : Option (PyData × Drw) := (b (.stt :: env0 m ds) w).bind fun r => (flD r.1).map fun d => (d, r.2.2)
theorem start_get {N : List Str} {vs : List V} {i : Nat} {v : V} (h : vs[i]? = some v) : (L2.start N vs)[i]? = some (some v) := by
  have hi := (List.getElem?_eq_some_iff.mp h).1
  unfold L2.start
  rw [List.getElem?_append_left (by rw [List.length_map]; exact hi), List.getElem?_map, h]
  rfl
theorem env0_get {m : Nat} {ds : List PyData} {i : Nat} {sl : Sl} (h : (env0 m ds)[i]? = some sl) : sl = .no ∨ ∃ d, ds[i]? = some d ∧ sl = .val d := by
  unfold env0 at h
  by_cases hi : i < ds.length
  · rw [List.getElem?_append_left (by rw [List.length_map]; exact hi), List.getElem?_map, List.getElem?_eq_getElem hi] at h
    cases h
    exact .inr ⟨_, List.getElem?_eq_getElem hi, rfl⟩
  · rw [List.getElem?_append_right (by rw [List.length_map]; omega), List.getElem?_replicate] at h
    split at h
    · cases h; exact .inl rfl
    · cases h
theorem start_length {N : List Str} {vs : List V} (h : vs.length ≤ N.length) : (L2.start N vs).length = N.length := by
  unfold L2.start
  rw [List.length_append, List.length_map, List.length_replicate]
  omega
theorem rel_start {β : Bool} {N : List Str} {H : Hp} {Ψ : AS} {vs : List V} {ds : List PyData} {m n : Nat} (h0 : ∀ a, Ψ a → H a ≠ none) (h : DvA β Ψ H vs ds) (hn : ds.length = n) (hN : N.length = n + m) (w : Drw) :
    Rel (β := β) ⟨none, 0, H, Ψ⟩ H Ψ (L2.start N vs) (env0 m ds) w := by
  have lv := h.length
  refine ⟨fun a o k _ => k, fun a k => k, h0, h0, ?_, fun i sl k => ?_, fun i j d e a k _ _ _ => ?_, trivial⟩
  · rw [start_length (by omega)]
    unfold env0
    rw [List.length_append, List.length_map, List.length_replicate]
    omega
  · rcases env0_get k with rfl | ⟨d, hd, rfl⟩
    · trivial
    · obtain ⟨v, hv, dv⟩ := h.get hd
      exact ⟨v, start_get hv, dv⟩
  · rcases env0_get k with z | ⟨d, hd, z⟩ <;> cases z
theorem rel_startS {β : Bool} {N : List Str} {H : Hp} {Ψ : AS} {s c : Addr} {vs : List V} {ds : List PyData} {m n : Nat} {w : Drw} (hw : WOk (some s) c Ψ H w) (h0 : ∀ a, Ψ a → H a ≠ none) (h : DvA β Ψ H vs ds) (hn : ds.length = n) (hN : N.length = n + 1 + m) :
    Rel (β := β) ⟨some s, c, H, Ψ⟩ H Ψ (L2.start N (.ref s :: vs)) (.stt :: env0 m ds) w := by
  have lv := h.length
  have at_ : ∀ (i : Nat) (sl : Sl), (Sl.stt :: env0 m ds)[i]? = some sl → (i = 0 ∧ sl = .stt) ∨ sl = .no ∨ ∃ d j, i = j + 1 ∧ ds[j]? = some d ∧ sl = .val d := fun i sl k => by
    cases i with
    | zero => cases k; exact .inl ⟨rfl, rfl⟩
    | succ j =>
      rw [List.getElem?_cons_succ] at k
      rcases env0_get k with z | ⟨d, z1, z2⟩
      · exact .inr (.inl z)
      · exact .inr (.inr ⟨d, j, rfl, z1, z2⟩)
  refine ⟨fun a o k _ => k, fun a k => k, h0, h0, ?_, fun i sl k => ?_, fun i j d e a k _ _ _ => ?_, hw⟩
  · rw [start_length (by rw [List.length_cons]; omega)]
    unfold env0
    rw [List.length_cons, List.length_append, List.length_map, List.length_replicate]
    omega
  · rcases at_ i sl k with ⟨rfl, rfl⟩ | rfl | ⟨d, j, rfl, hd, rfl⟩
    · exact ⟨s, rfl, start_get rfl⟩
    · trivial
    · obtain ⟨v, hv, dv⟩ := h.get hd
      exact ⟨v, start_get (by rw [List.getElem?_cons_succ]; exact hv), dv⟩
  · rcases at_ i _ k with ⟨_, z⟩ | z | ⟨d, j, _, _, z⟩ <;> cases z
/-- the body's model keeps the promise -/
theorem body_M {β : Bool} {n m : Nat} {b : MS} {N : List Str} (hN : N.length = n + m) {vs : List V} {H : Hp} {Q : VK} (h : spM β n (runM m b) vs H Q) : tSv β b { nx := fun _ H' => Q .non H', rt := Q } (L2.start N vs) H := by
  obtain ⟨Ψ, ds, d, h0, h1, h2, h3, q⟩ := h
  obtain ⟨⟨fl, S', w'⟩, h4, h5⟩ := Option.bind_eq_some_iff.mp h3
  refine ⟨⟨none, 0, H, Ψ⟩, Ψ, _, w0, fl, S', w', rel_start h0 h1 h2 hN w0, h4, ?_⟩
  cases fl with
  | nx =>
    cases h5
    exact fun σ' H' Ω' R g => q .non H' (fun a o k => R.ext a o k fun z => nomatch z) .non
  | rt e =>
    cases h5
    exact fun v H' e k dv => q v H' (fun a o k => e a o k fun z => nomatch z) dv
  | bk => cases h5
  | ct => cases h5
theorem body_S {β : Bool} {n m : Nat} {b : MS} {N : List Str} (hN : N.length = n + 1 + m) {vs : List V} {H : Hp} {Q : VK} (h : spS β n (runS m b) vs H Q) : tSv β b { nx := fun _ H' => Q .non H', rt := Q } (L2.start N vs) H := by
  obtain ⟨Ψ, s, c, us, w, w', ds, d, rfl, hw, h0, h1, h2, h3, q⟩ := h
  obtain ⟨⟨fl, S', w2⟩, h4, h5⟩ := Option.bind_eq_some_iff.mp h3
  obtain ⟨d', h6, h7⟩ := Option.map_eq_some_iff.mp h5
  cases h7
  refine ⟨⟨some s, c, H, Ψ⟩, Ψ, _, w, fl, S', _, rel_startS hw h0 h1 h2 hN, h4, ?_⟩
  cases fl with
  | nx =>
    cases h6
    exact fun σ' H' Ω' R g => q .non H' R.out R.wok .non
  | rt e =>
    cases h6
    exact fun v H' e k dv => q v H' e k dv
  | bk => cases h6
  | ct => cases h6

/-! ### calls -/
section
variable {β : Bool} {X : Cx} {k n : Nat} {f : Addr} {fd : FuncData} {ps : List Str} {sp : SpG} {x : Str} {p pos p2 : Pos} {e : Expr} {es : List Expr} {mr : MA} {ds : List Value} {dvs : List V} {t : TA}
theorem ite_some' {α : Type} {c : Prop} [Decidable c] {a : Option α} {d : α} (h : (if c then a else none) = some d) : c ∧ a = some d := by
  by_cases k : c
  · rw [if_pos k] at h
    exact ⟨k, h⟩
  · rw [if_neg k] at h
    cases h
def tCallG (sp : SpG) (dvs : List V) (t : TA) : TE := fun σ H Q => t σ H fun vs H1 => sp (vs ++ dvs) H1 Q
theorem run_G {pins : List (Addr × Obj)} {σ : L2.St} {H : Hp} {s : Shared} {Q : VK} {us : List Value} {vs : List V} (F : FnG X.prog X.w X.K X.mg X.base k f fd ps sp) (hr : RoomG k X.A) (hb : Binds X.K fd ps ds) (hd : Vals dvs ds) (I : Inv X pins σ H s) (r : Vals vs us) (h : sp (vs ++ dvs) H Q) :
    wpAny (model X.prog X.w) X.A (call (.ref f) us) (EP X pins σ Q) X.xe s := by
  have rr : Vals (vs ++ dvs) (us ++ ds) := r.append hd
  have ll : (us ++ ds).length = ps.length := by rw [← rr.length]; exact F.len _ _ _ h
  refine wpAny_call (codeAny_mono (F.run X.A X.stack s H ⟨us, []⟩ (us ++ ds) (vs ++ dvs) Q hr I.env0 (hb s us I.kIn ll) rr h) fun res s' hq => ?_)
  cases res with
  | error e => exact False.elim hq
  | ok fl => cases fl with
    | ret u => exact I.after hq
    | next => exact False.elim hq
    | brk => exact False.elim hq
    | cont => exact False.elim hq
theorem pe_callG (F : FnG X.prog X.w X.K X.mg X.base k f fd ps sp) (hr : RoomG k X.A) (hg : Gl X x) (hm : X.mg x = some (.ref f)) (hk : PySem.W.keepIn X.K (.ref f) = true) (hb : Binds X.K fd ps ds) (hd : Vals dvs ds)
    (ha : PA X (e :: es) t) (hdb : (x == ("__debug__" : Str)) = false := by decide) (he : starEach (e :: es) X.env = (false, eval e X.env) :: starEach es X.env := by rfl) (hpl : (backTo pos (starEach es X.env)).any (·.1) = false := by rfl) :
    PE X (.Call (.Name x p) (e :: es) [] pos) (tCallG sp dvs t) := by
  refine ⟨fun pins s σ H Q I h => wpAny_Call_Name_kw (ld_glob I hg hm ?_ hdb)⟩
  refine PySem.W.callWith_K (h₀ := X.base) I.ok.mod.kin hk (thn (ha.run pos pins s σ H _ I h) fun us s1 ⟨vs, H1, I1, r, q⟩ => ⟨I1.kIn, ?_⟩) he hpl
  exact run_G F hr hb hd I1 r q
theorem pe_callG0 (F : FnG X.prog X.w X.K X.mg X.base k f fd ps sp) (hr : RoomG k X.A) (hg : Gl X x) (hm : X.mg x = some (.ref f)) (hk : PySem.W.keepIn X.K (.ref f) = true) (hb : Binds X.K fd ps ds) (hd : Vals dvs ds)
    (hdb : (x == ("__debug__" : Str)) = false := by decide) : PE X (.Call (.Name x p) [] [] pos) (tCallG sp dvs tNil) := by
  refine ⟨fun pins s σ H Q I h => wpAny_Call_Name_kw (ld_glob I hg hm ?_ hdb)⟩
  exact PySem.W.callWith_K0 I.kIn hk (run_G (us := []) F hr hb hd I .nil h)
/-- what a caller knows of a def; dv: the defaults that fill up -/
structure DefP (P : Program) (w : World) (K : PySem.W.Frag) (mg : Str → Option Value) (base : Heap) (k : Nat) (x : Str) (sp : SpG) (dv : List V) : Prop where
  ex : ∃ (f : Addr) (fd : FuncData) (ps : List Str) (ds : List Value), FnG P w K mg base k f fd ps sp ∧ mg x = some (.ref f) ∧ PySem.W.keepIn K (.ref f) = true ∧ Binds K fd ps ds ∧ Vals dv ds
theorem call_M {G : List PyData → Option PyData} {dv : List V} {dd : List PyData} (hd : ∀ Ω H, DvA β Ω H dv dd) {σ : L2.St} {H : Hp} {Q : VK} (h : tEv β .esc (mF (fun ds => if ds.length + dd.length = n then G (ds ++ dd) else none) mr) σ H Q) : tCallG (spM β n G) dv (tAs β .esc mr) σ H Q := by
  obtain ⟨F, Ω, S, w, w', d, R, hm, q⟩ := h
  unfold mF at hm
  obtain ⟨⟨ds, w1⟩, h1, hm⟩ := Option.bind_eq_some_iff.mp hm
  obtain ⟨d', h2, hm⟩ := Option.map_eq_some_iff.mp hm
  cases hm
  obtain ⟨hl, h3⟩ := ite_some' h2
  refine ⟨F, Ω, S, w, _, ds, R, h1, fun vs H1 R1 e1 hvs => ?_⟩
  exact ⟨Ω, ds ++ dd, d, R1.dom, hvs.dv.append (hd Ω H1), by rw [List.length_append]; exact hl, h3, fun v H2 e2 hv => q v H2 (R1.ex e2) (e1.trans e2.evs) hv⟩
theorem de_callD {G : List PyData → Option PyData} {dv : List V} {dd : List PyData} (D : DefP X.prog X.w X.K X.mg X.base k x (spM β n G) dv) (hd : ∀ Ω H, DvA β Ω H dv dd) (hr : RoomG k X.A) (hg : Gl X x) (ha : DA β .esc X (e :: es) mr) (hdb : (x == ("__debug__" : Str)) = false := by decide) (he : starEach (e :: es) X.env = (false, eval e X.env) :: starEach es X.env := by rfl) (hpl : (backTo pos (starEach es X.env)).any (·.1) = false := by rfl) :
    DE β .esc X (.Call (.Name x p) (e :: es) [] pos) (mF (fun ds => if ds.length + dd.length = n then G (ds ++ dd) else none) mr) := by
  obtain ⟨f, fd, ps, ds, F, hm, hk, hb, hv⟩ := D.ex
  exact pe_imp (pe_callG F hr hg hm hk hb hv ha hdb he hpl) fun _ _ _ h => call_M hd h
/-- the def's model at these arguments -/
def cal (n : Nat) (G : List PyData → Option PyData) (ds : List PyData) : Option PyData := if ds.length = n then G ds else none
theorem de_call {G : List PyData → Option PyData} (D : DefP X.prog X.w X.K X.mg X.base k x (spM β n G) []) (hr : RoomG k X.A) (hg : Gl X x) (ha : DA β .esc X (e :: es) mr) (hdb : (x == ("__debug__" : Str)) = false := by decide) (he : starEach (e :: es) X.env = (false, eval e X.env) :: starEach es X.env := by rfl) (hpl : (backTo pos (starEach es X.env)).any (·.1) = false := by rfl) :
    DE β .esc X (.Call (.Name x p) (e :: es) [] pos) (mF (cal n G) mr) := by
  refine pe_imp (de_callD (dd := []) D (fun _ _ => .nil) hr hg ha hdb he hpl) fun σ H Q ⟨F, Ω, S, w, w', d, R, hm, q⟩ => ⟨F, Ω, S, w, w', d, R, ?_, q⟩
  unfold mF cal at hm
  unfold mF
  simp only [List.length_nil, Nat.add_zero, List.append_nil]
  exact hm
theorem de_call0 {G : List PyData → Option PyData} (D : DefP X.prog X.w X.K X.mg X.base k x (spM β 0 G) []) (hr : RoomG k X.A) (hg : Gl X x) (hdb : (x == ("__debug__" : Str)) = false := by decide) :
    DE β .esc X (.Call (.Name x p) [] [] pos) (fun _ w => (G []).map fun d => (d, w)) := by
  obtain ⟨f, fd, ps, ds, F, hm, hk, hb, hv⟩ := D.ex
  refine pe_imp (pe_callG0 F hr hg hm hk hb hv hdb) fun σ H Q ⟨F, Ω, S, w, w', d, R, hm, q⟩ => ?_
  obtain ⟨d', h2, hm⟩ := Option.map_eq_some_iff.mp hm
  cases hm
  exact ⟨Ω, [], d, R.dom, .nil, rfl, h2, fun v H2 e2 hv => q v H2 (R.ex e2) e2.evs hv⟩
/-- the draws' state first -/
def mFS (i n : Nat) (G : List PyData → Drw → Option (PyData × Drw)) (a : MA) : ME := fun S w => match S[i]? with
  | some .stt => (a S w).bind fun q => if q.1.length = n then G q.1 q.2 else none
  | _ => none
theorem de_callS {G : List PyData → Drw → Option (PyData × Drw)} {y : Str} {i : Nat} (D : DefP X.prog X.w X.K X.mg X.base k x (spS β n G) []) (hr : RoomG k X.A) (hg : Gl X x) (hv : PE X (.Name y p2) (tVar i)) (ha : DA β .esc X es mr) (hdb : (x == ("__debug__" : Str)) = false := by decide)
    (he : starEach (.Name y p2 :: es) X.env = (false, eval (.Name y p2) X.env) :: starEach es X.env := by rfl) (hpl : (backTo pos (starEach es X.env)).any (·.1) = false := by rfl) :
    DE β .esc X (.Call (.Name x p) (.Name y p2 :: es) [] pos) (mFS i n G mr) := by
  obtain ⟨f, fd, ps, ds, F, hm, hk, hb, hvv⟩ := D.ex
  refine pe_imp (pe_callG F hr hg hm hk hb hvv (pa_cons hv ha he) hdb he hpl) fun σ H Q ⟨F, Ω, S, w, w', d, R, hm, q⟩ => ?_
  unfold mFS at hm
  split at hm
  · rename_i hi
    obtain ⟨⟨ds, w1⟩, h1, hm⟩ := Option.bind_eq_some_iff.mp hm
    obtain ⟨s, s1, s2⟩ := R.slot i _ hi
    have hm' : ds.length = n ∧ G ds w1 = some (d, w') := by
      by_cases c : ds.length = n
      · exact ⟨c, by rw [← hm]; exact (if_pos c).symm⟩
      · have h2' : (if ds.length = n then G ds w1 else none) = some (d, w') := hm
        rw [if_neg c] at h2'; cases h2'
    refine ⟨_, s2, F, Ω, S, w, w1, ds, R, h1, fun vs H1 R1 e1 hvs => ?_⟩
    dsimp only
    rw [List.append_nil]
    have k1 := R1.wok
    rw [s1] at k1
    have kb := R1.base
    refine ⟨Ω, s, F.cl, vs, w1, w', ds, d, rfl, ⟨kb _ k1.1, kb _ k1.2.1, k1.2.2⟩, R1.dom, hvs.dv, hm'.1, hm'.2, fun v H2 e2 k2 hv => ?_⟩
    have e2' : Evs F.st H1 H2 := by rw [s1]; exact e2
    have k3 : WOk F.st F.cl F.Ψ H2 w' := by rw [s1]; exact ⟨k1.1, k1.2.1, k2.2.2⟩
    exact q v H2 (R1.evs e2' k3) (e1.trans e2') hv
  · cases hm
end
/-- a def of the text from its body's model -/
theorem def_M {β : Bool} {P : Program} {w : World} {K : PySem.W.Frag} {mg : Str → Option Value} {base : Heap} {k : Nat} {f : Addr} {fd : FuncData} {x qual : Str} {params : Arguments} {body : List Stmt} {scope : Scope} {dvs : List V} {kws : List (Str × V)} {N ps : List Str} {n m : Nat} {b : MS} (F : FunD K x qual params body scope dvs kws f fd) (S : FnScope N ps scope) (hn : ps.length = n) (hN : N.length = n + m)
    (hb : ∀ (cdv : Value) (A : Around) (outer : List Env) (s : Shared) (H : Hp), RoomG k (A.deeper (envOfC qual scope s.heap.objs.size f cdv)) → DB β (cxOf CX0 P w K mg base N qual scope f cdv A outer s H E0).nox body b) :
    FnG P w K mg base (k + 1) f fd ps (spM β n (runM m b)) :=
  fng_funD F S (spM_len hn) fun cdv A outer s H vs Q hr hsp => ⟨_, hb cdv A outer s H hr, body_M hN hsp⟩
theorem def_S {β : Bool} {P : Program} {w : World} {K : PySem.W.Frag} {mg : Str → Option Value} {base : Heap} {k : Nat} {f : Addr} {fd : FuncData} {x qual : Str} {params : Arguments} {body : List Stmt} {scope : Scope} {dvs : List V} {kws : List (Str × V)} {N ps : List Str} {n m : Nat} {b : MS} (F : FunD K x qual params body scope dvs kws f fd) (S : FnScope N ps scope) (hn : ps.length = n + 1) (hN : N.length = n + 1 + m)
    (hb : ∀ (cdv : Value) (A : Around) (outer : List Env) (s : Shared) (H : Hp), RoomG k (A.deeper (envOfC qual scope s.heap.objs.size f cdv)) → DB β (cxOf CX0 P w K mg base N qual scope f cdv A outer s H E0).nox body b) :
    FnG P w K mg base (k + 1) f fd ps (spS β n (runS m b)) :=
  fng_funD F S (spS_len hn) fun cdv A outer s H vs Q hr hsp => ⟨_, hb cdv A outer s H hr, body_S hN hsp⟩
/-- an own constant of the module -/
theorem de_gconst {β : Bool} {X : Cx} {x : Str} {pos : Pos} {i : Int} (hg : Gl X x) (hm : ∃ t, X.mg x = some (.int i t)) (hd : (x == ("__debug__" : Str)) = false := by decide) : DE β .esc X (.Name x pos) (mC (.int i)) := by
  obtain ⟨t, e⟩ := hm
  exact de_gint hg e ⟨t, rfl⟩ hd
end Mini

set_option Elab.async false
set_option linter.all false
set_option maxRecDepth 100000
set_option maxHeartbeats 4000000
/-! Mini H: the law's own head. -/
namespace Mini
open PySem PySem.Spec PyProof.Rows L2

/-- the law's promise at the heap behind the top -/
theorem law_callG {P : Program} {w : World} {K : PySem.W.Frag} {mg mb : Str → Option Value} {k : Nat} {fa a : Addr} {fd : FuncData} {x : Str} {sp : SpG} {s1 : Shared} {vs : List Value} {ns : List Int}
    (inK : K.In s1.heap) (gns : s1.heap.Ns mainGlobals mg) (bns : s1.heap.Ns builtinsNs mb) (bbt : ∀ x : Str, x ≠ "__name__" → mb x = bootBuiltins x) (nlm : s1.heap.NoLimit) (gen : s1.gens = #[])
    (obj : s1.heap.get? a = some { cls := .type "list", data := .seq vs.toArray }) (hints : IntsAre vs ns) (few : ns.length ≤ sizeLine) (hr : RoomG k callerA)
    (F : ∀ base : Heap, K.In base → base.Ns mainGlobals mg → FnG P w K mg base k fa fd [x] sp) (bnd : ∀ (s : Shared) (u : Value), BindsTo s fd ⟨[u], []⟩ [(x, u)])
    (hsp : ∀ H : Hp, Only H → SqL K H a (ns.map V.int) → sp [.ref a] H fun v _ => v = .bl true) :
    codeAny (model P w) callerA (.call (.ref fa) ⟨[.ref a], []⟩) (fun r s' => r = .ok (.ret (.bool true)) ∧ OldK s1.heap s'.heap ∧ s'.os = s1.os ∧ AllBare s'.gens) s1 := by
  have rv := vals_ints hints
  have lv := hints.length
  have main : ∀ H : Hp, Only H → SqL K H a (ns.map V.int) → HOk P w H s1.heap → (∀ b, H b ≠ none → b = a) → (H a ≠ none → K.lookup a = none) →
      codeAny (model P w) callerA (.call (.ref fa) ⟨[.ref a], []⟩) (fun r s' => r = .ok (.ret (.bool true)) ∧ OldK s1.heap s'.heap ∧ s'.os = s1.os ∧ AllBare s'.gens) s1 := by
    intro H only sq ok one notK
    have there : ∀ {b : Addr} {o : Obj}, s1.heap.get? b = some o → H b = none → (hidT s1.heap H).get? b = some o := fun q n => hidT_get q n
    have dictNo : ∀ {b : Addr} {o : Obj} {es : Array DictEntry} {ep : Nat}, s1.heap.get? b = some o → o.data = .dict es ep → H b = none := by
      intro b o es ep q dt
      cases h : H b with
      | none => rfl
      | some u =>
        have ba : b = a := one b (by rw [h]; exact fun z => nomatch z)
        rw [ba, obj] at q
        cases q
        exact absurd (show Data.seq vs.toArray _ = Data.dict es ep from dt) fun z => nomatch z
    have ns' : ∀ {b : Addr} {m : Str → Option Value}, s1.heap.Ns b m → (hidT s1.heap H).Ns b m := by
      rintro b m ⟨o, es, ep, q, dt, r⟩
      exact ⟨o, es, ep, there q (dictNo q dt), dt, r⟩
    have kb : K.In (hidT s1.heap H) := by
      intro b o q
      refine there (inK b o q) ?_
      cases h : H b with
      | none => rfl
      | some u =>
        have ba : b = a := one b (by rw [h]; exact fun z => nomatch z)
        subst ba
        rw [notK (by rw [h]; exact fun z => nomatch z)] at q
        cases q
    have md : Mod K mg (hidT s1.heap H) := ⟨kb, ns' gns, ⟨mb, ns' bns, bbt⟩, let ⟨mc, u1, u2⟩ := nlm; ⟨mc, ns' u1, u2⟩⟩
    have e0 : Env0 P w K mg (hidT s1.heap H) callerA [] s1 H := ⟨rfl, md, fun b o q => of_hidT q, Nat.le_of_eq (hidT_size _ _), trivial, (fun b z => by cases z), ok, .of_eq gen⟩
    refine codeAny_mono ((F _ kb (ns' gns)).run callerA [] s1 H ⟨[.ref a], []⟩ [.ref a] [.ref a] _ hr e0 (bnd s1 (.ref a)) (.cons rfl .nil) (hsp H only sq)) fun r s' h => ?_
    cases r with
    | error e => exact False.elim h
    | ok fl => cases fl with
      | next => exact False.elim h
      | brk => exact False.elim h
      | cont => exact False.elim h
      | ret u =>
        obtain ⟨v, H', os, bare, un, ok', rr, q⟩ := h
        obtain rfl : v = .bl true := q
        obtain rfl : u = Value.bool true := rr
        refine ⟨rfl, OldK.of_keep fun b o q => ?_, os, bare⟩
        cases hb : H b with
        | none => exact un.keep b o q hb (fun z => by cases z) (fun z => by cases z)
        | some u =>
          rcases only b with z | ⟨ob, xs, z⟩
          · rw [hb] at z
            cases z
          · obtain ⟨q1, _⟩ := ok b _ z
            obtain ⟨q2, _⟩ := ok' b _ (un.frzs b ob _ z)
            rw [q] at q1
            cases q1
            exact q2
  cases hk : K.lookup a with
  | some o =>
    have q := inK a o hk
    rw [obj] at q
    cases q
    exact main (fun _ => none) (fun _ => .inl rfl) (.inr ⟨_, vs.toArray, _, hk, rfl, rfl, rfl, by rw [List.size_toArray, lv]; exact few, by simpa using rv⟩) (fun b u z => by have z' : (none : Option HO) = some u := z; cases z') (fun b z => absurd rfl z) fun z => absurd rfl z
  | none =>
    refine main (fun b => if b = a then some (.frz { cls := .type "list", data := .seq vs.toArray } (.lst (ns.map V.int))) else none) (fun b => ?_) (.inl (.inr ⟨_, if_pos rfl⟩)) (fun b u z => ?_) (fun b z => ?_) fun _ => hk
    · by_cases ba : b = a
      · exact .inr ⟨_, _, if_pos ba⟩
      · exact .inl (if_neg ba)
    · by_cases ba : b = a
      · subst ba
        cases (if_pos rfl).symm.trans z
        exact ⟨obj, by rw [List.length_map]; exact few, vs, _, rv, obj⟩
      · cases (if_neg ba).symm.trans z
    · by_cases ba : b = a
      · exact ba
      · exact absurd (if_neg ba) z
/-- behind k_head: the goal of the walk -/
theorem walk_G {l : PySem.W.OpenLaw} {n k : Nat} {q : Program} {loose : List Str} {XP : (Str → Option Value) → Heap → Prop} {YP : World → Heap → Prop} {d : DefRec} {K : Params → PySem.W.Frag} {sp : World → SpG} {x : Str}
    (hn : l.most = some n) (hn2 : n ≤ sizeLine) (hdf : d.params.defaults = []) (hr : RoomG k callerA)
    (hY : ∀ (w : World) (h : Heap), YP w h → (K w.params).In h)
    (F : ∀ (w : World) (mg : Str → Option Value) (fa : Addr) (h : Heap), (K w.params).In h → h.Ns mainGlobals mg → mg d.name = some (.ref fa) →
      ∃ fd : FuncData, (∀ (s : Shared) (u : Value), BindsTo s fd ⟨[u], []⟩ [(x, u)]) ∧ ∀ base : Heap, (K w.params).In base → base.Ns mainGlobals mg → FnG l.prog w (K w.params) mg base k fa fd [x] (sp w))
    (hsp : ∀ (w : World) (H : Hp) (a : Addr) (ns : List Int), ns.length ≤ n → (∀ z ∈ ns, Builtin.Int.intBits z ≤ 1048576) → Only H → SqL (K w.params) H a (ns.map V.int) → sp w [.ref a] H fun v _ => v = .bl true) :
    PySem.W.WalkO q loose XP YP l.row.toRowW d [] (fun f vs => PySem.call f vs) := by
  refine Att.attach_callB hn hdf fun w s0 s1 mg mb fa o pm cd doc a vs ns G Y ho hd hcd hmg hobj hints hlen hbits hg => ?_
  have inK := hY w _ Y
  obtain ⟨fd, hb, hF⟩ := F w mg fa _ inK G.T.g hmg
  exact law_callG inK G.T.g G.T.b G.T.builtins G.T.nolimit hg hobj hints (Nat.le_trans hlen hn2) hr hF hb fun H h1 h2 => hsp w H a ns hlen hbits h1 h2
/-- the same, the written part known by its facts alone -/
theorem walk_GE {l : PySem.W.OpenLaw} {n k : Nat} {q : Program} {loose : List Str} {XP : (Str → Option Value) → Heap → Prop} {YP : World → Heap → Prop} {d : DefRec} {x : Str}
    (hn : l.most = some n) (hn2 : n ≤ sizeLine) (hdf : d.params.defaults = []) (hr : RoomG k callerA)
    (F : ∀ (w : World) (mg : Str → Option Value) (fa : Addr) (h : Heap), YP w h → h.Ns mainGlobals mg → mg d.name = some (.ref fa) →
      ∃ (K : PySem.W.Frag) (fd : FuncData) (sp : SpG), K.In h ∧ (∀ (s : Shared) (u : Value), BindsTo s fd ⟨[u], []⟩ [(x, u)]) ∧
        (∀ (H : Hp) (a : Addr) (ns : List Int), ns.length ≤ n → (∀ z ∈ ns, Builtin.Int.intBits z ≤ 1048576) → Only H → SqL K H a (ns.map V.int) → sp [.ref a] H fun v _ => v = .bl true) ∧
        ∀ base : Heap, K.In base → base.Ns mainGlobals mg → FnG l.prog w K mg base k fa fd [x] sp) :
    PySem.W.WalkO q loose XP YP l.row.toRowW d [] (fun f vs => PySem.call f vs) := by
  refine Att.attach_callB hn hdf fun w s0 s1 mg mb fa o pm cd doc a vs ns G Y ho hd hcd hmg hobj hints hlen hbits hg => ?_
  obtain ⟨K, fd, sp, inK, hb, hsp, hF⟩ := F w mg fa _ Y G.T.g hmg
  exact law_callG inK G.T.g G.T.b G.T.builtins G.T.nolimit hg hobj hints (Nat.le_trans hlen hn2) hr hF hb fun H h1 h2 => hsp H a ns hlen hbits h1 h2
theorem room_caller {k : Nat} (h : Room k callerA) : RoomG k callerA := ⟨h, rfl⟩
end Mini

set_option Elab.async false
set_option linter.all false
set_option maxRecDepth 100000
set_option maxHeartbeats 4000000
/-! Mini I: slices, chains of comparisons, more built-ins over plain data. -/
namespace HTm
open PySem PySem.Spec PyProof.Rows HT
section
variable {prog : Program} {w : World} {A : Around} {E : Value → Shared → Prop} {s : Shared}
theorem adj_rev (n : Nat) : Builtin.Slice.sliceAdjust none none (-1) (n : Int) = ((n : Int) - 1, -1) := by
  unfold Builtin.Slice.sliceAdjust
  simp
theorem places_rev (n : Nat) : Builtin.Slice.slicePlaces ((n : Int) - 1) (-1) (-1) = n := by
  unfold Builtin.Slice.slicePlaces
  simp
  omega
theorem applied_rev {sl : Addr} {vl vu vs : Value} {n : Nat} {Q : Int × Int × Nat → Shared → Prop} (hs : s.heap.IsSliceOf sl vl vu vs) (pl : IsPart vl none) (pu : IsPart vu none) (ps : IsPart vs (some (-1))) (h : Q ((n : Int) - 1, -1, n) s) :
    wpAny (model prog w) A (Builtin.Slice.sliceApplied (.ref sl) (pure (n : Int))) Q E s := by
  obtain ⟨os, hos, hcs, hds⟩ := id hs
  unfold Builtin.Slice.sliceApplied Builtin.Slice.sliceFields
  refine wpAny_bind (wpAny_bind (wpAny_field hos hds (x := vl) rfl (wpAny_bind (wpAny_field hos hds (x := vu) rfl (wpAny_bind (wpAny_field hos hds (x := vs) rfl (wpAny_pure ?_)))))))
  refine wpAny_bind (slicePart_ ps ?_)
  show wpAny _ _ (if ((-1 : Int) == 0) = true then _ else _) _ _ s
  rw [if_neg (by decide)]
  refine wpAny_bind (slicePart_ pl (wpAny_bind (slicePart_ pu (wpAny_bind (wpAny_pure ?_)))))
  show wpAny _ _ (match Builtin.Slice.sliceAdjust none none (-1) (n : Int) with | (lo, hi) => pure (lo, (-1 : Int), Builtin.Slice.slicePlaces lo hi (-1))) _ _ s
  rw [adj_rev n]
  show wpAny _ _ (pure ((n : Int) - 1, (-1 : Int), Builtin.Slice.slicePlaces ((n : Int) - 1) (-1) (-1))) _ _ s
  rw [places_rev]
  exact wpAny_pure h
theorem fm_congr {α β : Type} {f g : α → Option β} : ∀ {l : List α}, (∀ x ∈ l, f x = g x) → l.filterMap f = l.filterMap g
  | [], _ => rfl
  | a :: l, h => by
    rw [List.filterMap_cons, List.filterMap_cons, h a List.mem_cons_self, fm_congr fun x hx => h x (List.mem_cons_of_mem _ hx)]
theorem pick_rev (xs : Array Value) : ((List.range xs.size).filterMap fun (m : Nat) => xs[(((xs.size : Nat) : Int) - 1 + (m : Int) * (-1)).toNat]?).toArray = xs.toList.reverse.toArray := by
  congr 1
  have key : ∀ (l : List Value), (List.range l.length).filterMap (fun (m : Nat) => l[((l.length : Int) - 1 + (m : Int) * (-1)).toNat]?) = l.reverse := fun l => by
    induction l with
    | nil => rfl
    | cons x r ih =>
      rw [List.length_cons, List.range_succ, List.filterMap_append, List.reverse_cons, ← ih]
      congr 1
      · refine fm_congr fun m hm => ?_
        have hm := List.mem_range.mp hm
        have e1 : (((r.length + 1 : Nat) : Int) - 1 + (m : Int) * (-1)).toNat = ((r.length : Int) - 1 + (m : Int) * (-1)).toNat + 1 := by omega
        rw [e1, List.getElem?_cons_succ]
      · have e1 : (((r.length + 1 : Nat) : Int) - 1 + (r.length : Int) * (-1)).toNat = 0 := by omega
        simp only [List.filterMap_cons, List.filterMap_nil, e1, List.getElem?_cons_zero]
  have h := key xs.toList
  rw [Array.length_toList] at h
  rw [← h]
  refine fm_congr fun m hm => ?_
  rw [Array.getElem?_toList]
theorem getItem_tup_rev {t sl : Addr} {items : Array Value} {vl vu vs : Value} {Q : Value → Shared → Prop} (ht : IsTup s.heap t items) (hs : s.heap.IsSliceOf sl vl vu vs) (pl : IsPart vl none) (pu : IsPart vu none) (ps : IsPart vs (some (-1)))
    (h : Q (.ref s.heap.objs.size) { s with heap := s.heap.push { cls := .type "tuple", data := .seq items.toList.reverse.toArray } }) (hsz : items.size ≤ sizeLine) : wpAny (model prog w) A (getItem (.ref t) (.ref sl)) Q E s := by
  have hz : sizeOk (.seq items.toList.reverse.toArray) := by
    show items.toList.reverse.toArray.size ≤ sizeLine
    rw [List.size_toArray, List.length_reverse, Array.length_toList]
    exact hsz
  obtain ⟨os, hos, hcs, hds⟩ := id hs
  have hTs : s.TypeIs (.ref sl) "slice" := ⟨os, hos, hcs⟩
  unfold getItem
  try with_reducible refine wpAny_holding ?_
  first | refine wpAny_bind (wpAny_pure ?_) | skip
  refine wpAny_bind (wpAny_sequenceKey ht.typeIs (by decide) ?_)
  refine wpAny_bind (wpAny_callSpecial?_slot (name := Str.ofString "__getitem__") ht.typeIs PyProof.Rows.slot_tuple_getitem
    (wpAny_call_entry PyProof.Rows.slot_tuple_getitem ht.typeIs entry_tuple_getitem ?_ (args_tuple_getitem _ _)))
  show wpAny _ _ (Builtin.Tuple.tupleItemsOf (.ref t) >>= _) _ _ s
  refine wpAny_bind (tupleItemsOf_ ht ?_)
  refine wpAny_bind (wpAny_typeOf hTs ?_)
  rw [if_pos (by decide)]
  refine wpAny_bind (applied_rev hs pl pu ps ?_)
  have no : ¬ ((((items.size : Nat) : Int) - 1 == 0 && (-1 : Int) == 1 && items.size == items.size) = true) := by simp
  show wpAny _ _ (if (((items.size : Nat) : Int) - 1 == 0 && (-1 : Int) == 1 && items.size == items.size) = true then _ else _) _ _ s
  rw [if_neg no, pick_rev]
  first
    | exact wpAny_bind (m := Builtin.Tuple.tupleExact _) (wpAny_newObj_type (wpAny_pure ⟨_, rfl, wpAny_pure h⟩) hz)
    | exact wpAny_bind (wpAny_bind (m := Builtin.Tuple.tupleExact _) (wpAny_newObj_type (wpAny_pure (wpAny_pure ⟨_, rfl, wpAny_pure h⟩)) hz))
end
end HTm
namespace Mini
open PySem PySem.Spec PyProof.Rows L2

/-! ### x[lo:hi] -/
def cutD (xs : List PyData) (lo hi : Option Int) : List PyData := (xs.drop (HT.sIx xs.length 0 lo)).take (HT.sIx xs.length xs.length hi - HT.sIx xs.length 0 lo)
theorem cutD_length (xs : List PyData) (lo hi : Option Int) : (cutD xs lo hi).length ≤ xs.length := by
  unfold cutD
  rw [List.length_take, List.length_drop]
  omega
theorem DvA.cut {β : Bool} {Ω : AS} {H : Hp} {vs : List V} {ds : List PyData} (h : DvA β Ω H vs ds) (lo hi : Option Int) : DvA β Ω H (cutV vs lo hi) (cutD ds lo hi) := by
  unfold cutV cutD
  rw [h.length]
  exact (h.drop _).take _
def dCut (lo hi : Option Int) : PyData → Option PyData
  | .list xs => some (.list (cutD xs lo hi))
  | .tuple xs => some (.tuple (cutD xs lo hi))
  | _ => none
/-- of a tuple, its object known -/
def rCutT (β : Bool) (K : PySem.W.Frag) : V → Option Int → Option Int → Hp → VK → Prop := fun x lo hi H Q => ∃ a xs, x = .ref a ∧ SqT K H a xs ∧
  (HT.sIx xs.length 0 lo = 0 ∧ HT.sIx xs.length xs.length hi = xs.length → Q (.ref a) H) ∧ (¬ (HT.sIx xs.length 0 lo = 0 ∧ HT.sIx xs.length xs.length hi = xs.length) → MkTup β H (cutV xs lo hi) Q)
theorem sl_cutT {X : Cx} : ∀ β, SlR X (rCutT β X.K)
  | false => fun pins s σ H x v vl vu lo hi sl Q I rx hs pl pu h => sl_tupA pins s σ H x v vl vu lo hi sl Q I rx hs pl pu h
  | true => by
    intro pins s σ H x v vl vu lo hi sl Q I rx hs pl pu ⟨a, xs, ex, hx, q1, q2⟩
    by_cases hw : HT.sIx xs.length 0 lo = 0 ∧ HT.sIx xs.length xs.length hi = xs.length
    · exact sl_tupA pins s σ H x v vl vu lo hi sl Q I rx hs pl pu ⟨a, xs, ex, hx, q1, fun z => absurd hw z⟩
    · subst ex
      cases rx
      obtain ⟨its, r, ht, hz⟩ := I.tuple hx
      have hlen : its.toArray.size = xs.length := by rw [List.size_toArray]; exact r.length.symm
      refine ⟨"tuple", _, PyProof.Rows.slot_tuple_getitem.lookup, ht.typeIs, HT.getItem_tuple_cut ht hs pl pu (by rw [hlen]; exact hw) ?_ (by rw [hlen]; exact hz)⟩
      rw [hlen]
      exact ⟨.ref s.heap.objs.size, _, I.laid (t' := s.toks) (o := .frz _ (.tup (cutV xs lo hi))) (fun b ob q => Heap.get?_push_of_some _ q) (Nat.le_refl _) (obj_tup (Nat.le_trans (cutV_length xs lo hi) hz) ((r.drop _).take _) (Heap.get?_push_size _ rfl)), rfl, q2 hw _ _ (I.hok.fresh (Nat.le_refl _)) rfl⟩
/-- a slice's part -/
abbrev MO := SEnv → Drw → Option (Option Int × Drw)
def tPo (β : Bool) (m : MO) : TO := fun σ H Q => ∃ (F : Fx β) (Ω : AS) (S : SEnv) (w w' : Drw) (o : Option Int), Rel F H Ω σ S w ∧ m S w = some (o, w') ∧ ∀ H', Rel F H' Ω σ S w' → Evs F.st H H' → Q o H'
def DO (β : Bool) (X : Cx) (e : Option Expr) (m : MO) : Prop := PO X e (tPo β m)
def mNoP : MO := fun _ w => some (none, w)
def mPt (m : ME) : MO := fun S w => (m S w).bind fun p => match p.1 with
  | .int i => some (some i, p.2)
  | _ => none
def mCut (a : ME) (lo hi : MO) : ME := fun S w => (a S w).bind fun p => (lo S p.2).bind fun l => (hi S l.2).bind fun h => (dCut l.1 h.1 p.1).map fun d => (d, h.2)
def dRev : PyData → Option PyData
  | .list xs => some (.list xs.reverse)
  | .tuple xs => some (.tuple xs.reverse)
  | _ => none
def mRev (a : ME) : ME := fun S w => (a S w).bind fun p => (dRev p.1).map fun d => (d, p.2)
section
variable {β : Bool} {X : Cx} {a b c e : Expr} {es : List Expr} {pos p2 p1 p3 : Pos} {r : Strg} {ma mb mc m : ME} {lo hi : Option Expr} {ml mh : MO}
theorem po_imp {t t' : TO} {e : Option Expr} (h : PO X e t) (k : ∀ σ H Q, t' σ H Q → t σ H Q) : PO X e t' := ⟨fun pins s σ H Q I hw => h.run pins s σ H Q I (k σ H Q hw)⟩
theorem do_none : DO β X none mNoP := po_imp po_none fun σ H Q ⟨F, Ω, S, w, w', o, R, hm, q⟩ => by
  cases hm
  exact q H R (Evs.refl _ _)
theorem do_some (h : DE β .esc X e m) : DO β X (some e) (mPt m) := po_imp (po_some h) fun σ H Q ⟨F, Ω, S, w, w', o, R, hm, q⟩ => by
  unfold mPt at hm
  obtain ⟨⟨d, w1⟩, h1, hm⟩ := Option.bind_eq_some_iff.mp hm
  cases d with
  | int i =>
    cases hm
    exact ⟨F, Ω, S, w, _, .int i, R, h1, fun v H1 R1 e1 hv => ⟨i, Dv.int_inv hv, q H1 R1 e1⟩⟩
  | _ => cases hm
theorem de_slice (ha : DE β r X e m) (hl : DO β X lo ml) (hh : DO β X hi mh) : DE β .esc X (.Subscript e (.Slice lo hi none p2) pos) (mCut m ml mh) :=
  pe_imp (pe_slice (SlR.or sl_list (sl_cutT β)) ha hl hh) fun σ H Q ⟨F, Ω, S, w, w', d, R, hm, q⟩ => by
  unfold mCut at hm
  obtain ⟨⟨d0, w1⟩, h1, hm⟩ := Option.bind_eq_some_iff.mp hm
  obtain ⟨⟨l, w2⟩, h2, hm⟩ := Option.bind_eq_some_iff.mp hm
  obtain ⟨⟨h, w3⟩, h3, hm⟩ := Option.bind_eq_some_iff.mp hm
  obtain ⟨d', h4, hm⟩ := Option.map_eq_some_iff.mp hm
  cases hm
  refine ⟨F, Ω, S, w, w1, d0, R, h1, fun v H1 R1 e1 hv => ⟨F, Ω, S, w1, w2, l, R1, h2, fun H2 R2 e2 => ⟨F, Ω, S, w2, _, h, R2, h3, fun H3 R3 e3 => ?_⟩⟩⟩
  have hv3 := (hv.mono R1 e2).mono R2 e3
  have ev := (e1.trans e2).trans e3
  cases d0 with
  | list xs =>
    cases h4
    obtain ⟨p, vs, rfl, k1, k2, k3⟩ := hv3.lst_inv
    refine .inl ⟨p, vs, rfl, .of k1, fun p' hp => ?_⟩
    have hc := k3.cut l h
    obtain ⟨e4, dv⟩ := new_lst R3 hc (Nat.le_trans (cutD_length xs l h) (by rw [← k3.length]; exact k2)) hp
    exact q _ _ (R3.ex e4) (ev.trans e4.evs) dv
  | tuple xs =>
    cases h4
    have hv4 := hv3.flat rfl
    obtain ⟨p, vs, ep, k1, k2, k3⟩ := hv3.tup_inv
    refine .inr ⟨p, vs, ep, k1.seq, fun hw => ?_, fun hw => ?_⟩
    · have e0 : cutD xs l h = xs := by
        unfold cutD
        rw [← k3.length, hw.1, hw.2, List.drop_zero, Nat.sub_zero, k3.length, List.take_length]
      rw [e0] at q
      rw [← ep]
      exact q v H3 R3 ev hv4
    · exact new_tup R3 (k3.cut l h) (Nat.le_trans (cutD_length xs l h) (by rw [← k3.length]; exact k2)) fun u H4 e4 du => q u H4 (R3.ex e4) (ev.trans e4.evs) du
  | _ => cases h4
/-- x[::-1] -/
def tRevX (β : Bool) (K : PySem.W.Frag) (te : TE) : TE := fun σ H Q => te σ H fun x H1 => ∃ a xs, x = .ref a ∧ ((SqL K H1 a xs ∧ ∀ p, H1 p = none → Q (.ref p) (upd H1 p (.lst xs.reverse))) ∨ (SqT K H1 a xs ∧ MkTup β H1 xs.reverse Q))
theorem pe_revX {te : TE} {k : Nat} (he : PE X e te) : PE X (.Subscript e (.Slice none none (some (.UnaryOp .USub (.Constant (.int 1) k p1) p2)) p3) pos) (tRevX β X.K te) := by
  refine ⟨fun pins s σ H Q I h => Subscript_ (thn (he.run pins s σ H _ I h) fun v s1 ⟨x, H1, I1, r1, q1⟩ => ?_)⟩
  obtain ⟨a, xs, ex, hx⟩ := q1
  subst ex
  cases r1
  have part : PO X (some (.UnaryOp .USub (.Constant (.int 1) k p1) p2)) (tPart (tUn (rU fun i => .int (-i)) (tC (.int 1)))) := po_some (pe_un un_neg pe_int)
  refine wpAny_Slice (thn (po_none.run pins s1 σ H1 (fun o H2 => o = none ∧ H2 = H1) I1 ⟨rfl, rfl⟩) fun vl s2 ⟨l, H2, I2, pl, el, eh2⟩ => ?_)
  subst el eh2
  refine thn (po_none.run pins s2 σ H2 (fun o H3 => o = none ∧ H3 = H2) I2 ⟨rfl, rfl⟩) fun vu s3 ⟨u, H3, I3, pu, eu, eh3⟩ => ?_
  subst eu eh3
  refine thn (part.run pins s3 σ H3 (fun o H4 => o = some (-1) ∧ H4 = H3) I3 ⟨1, rfl, -1, rfl, rfl, rfl⟩) fun vs s4 ⟨o, H4, I4, ps, eo, eh4⟩ => ?_
  subst eo eh4
  have I5 : Inv X pins σ H4 { s4 with heap := s4.heap.push { cls := .type "slice", data := .fields #[vl, vu, vs] } } := I4.kept (t' := s4.toks) fun b ob q => Heap.get?_push_of_some _ q
  show wpAny (model X.prog X.w) X.A (subscriptTail e (.Slice none none (some (.UnaryOp .USub (.Constant (.int 1) k p1) p2)) p3) (.ref a) (.ref s4.heap.objs.size)) (EP X pins σ Q) X.xe { s4 with heap := s4.heap.push { cls := .type "slice", data := .fields #[vl, vu, vs] } }
  rcases hx with ⟨hx, q⟩ | ⟨hx, q⟩
  · obtain ⟨its, r, ht, hz⟩ := I5.list hx
    have hl := r.length
    refine tail_any (ops := [.ref a, .ref s4.heap.objs.size]) ht.isList.typeIs (PySem.slot_list_getitem.lookup) (wpAny_getItem_list_slice ht.isList (Heap.IsSliceOf.new _ vl vu vs) pl pu ps (by decide) ?_ (by rw [List.size_toArray]; omega)) (by with_unfolding_all rfl)
    rw [PySem.W.krv_pick]
    exact ⟨.ref _, _, I5.laid (t' := s4.toks) (o := .lst xs.reverse) (fun b ob q => Heap.get?_push_of_some _ q) (Nat.le_refl _) ⟨by rw [List.length_reverse]; exact hz, _, 0, r.reverse, Heap.get?_push_size _ rfl⟩, rfl, q _ (I5.hok.fresh (Nat.le_refl _))⟩
  · obtain ⟨its, r, ht, hz⟩ := I5.tuple hx
    have hl := r.length
    refine tail_any (ops := [.ref a, .ref s4.heap.objs.size]) ht.typeIs (PyProof.Rows.slot_tuple_getitem.lookup) (HTm.getItem_tup_rev ht (Heap.IsSliceOf.new _ vl vu vs) pl pu ps ?_ (by rw [List.size_toArray]; omega)) (by with_unfolding_all rfl)
    have hz' : xs.reverse.length ≤ sizeLine := by rw [List.length_reverse]; exact hz
    cases β with
    | false => exact ⟨.ref _, _, I5.laid (t' := s4.toks) (o := .tup xs.reverse) (fun b ob q => Heap.get?_push_of_some _ q) (Nat.le_refl _) ⟨hz', _, r.reverse, ⟨_, Heap.get?_push_size _ rfl, rfl, _, rfl⟩⟩, rfl, q _ (I5.hok.fresh (Nat.le_refl _))⟩
    | true => exact ⟨.ref _, _, I5.laid (t' := s4.toks) (o := .frz _ (.tup xs.reverse)) (fun b ob q => Heap.get?_push_of_some _ q) (Nat.le_refl _) (obj_tup hz' r.reverse (Heap.get?_push_size _ rfl)), rfl, q _ _ (I5.hok.fresh (Nat.le_refl _)) rfl⟩
theorem de_rev {k : Nat} (ha : DE β r X e m) : DE β .esc X (.Subscript e (.Slice none none (some (.UnaryOp .USub (.Constant (.int 1) k p1) p2)) p3) pos) (mRev m) :=
  pe_imp (pe_revX (β := β) ha) fun σ H Q ⟨F, Ω, S, w, w', d, R, hm, q⟩ => by
  unfold mRev at hm
  obtain ⟨⟨d0, w1⟩, h1, hm⟩ := Option.bind_eq_some_iff.mp hm
  obtain ⟨d', h4, hm⟩ := Option.map_eq_some_iff.mp hm
  cases hm
  refine ⟨F, Ω, S, w, _, d0, R, h1, fun v H1 R1 e1 hv => ?_⟩
  cases d0 with
  | list xs =>
    cases h4
    obtain ⟨p, vs, rfl, k1, k2, k3⟩ := hv.lst_inv
    refine ⟨p, vs, rfl, .inl ⟨.of k1, fun p' hp => ?_⟩⟩
    obtain ⟨e4, dv⟩ := new_lst R1 k3.reverse (by rw [List.length_reverse, ← k3.length]; exact k2) hp
    exact q _ _ (R1.ex e4) (e1.trans e4.evs) dv
  | tuple xs =>
    cases h4
    obtain ⟨p, vs, ep, k1, k2, k3⟩ := hv.tup_inv
    exact ⟨p, vs, ep, .inr ⟨k1.seq, new_tup R1 k3.reverse (by rw [List.length_reverse, ← k3.length]; exact k2) fun u H4 e4 du => q u H4 (R1.ex e4) (e1.trans e4.evs) du⟩⟩
  | _ => cases h4
/-- -e -/
def dNeg : PyData → Option PyData
  | .int i => some (.int (-i))
  | _ => none
def mNeg (a : ME) : ME := fun S w => (a S w).bind fun p => (dNeg p.1).map fun d => (d, p.2)
theorem de_neg (ha : DE β r X e m) : DE β .esc X (.UnaryOp .USub e pos) (mNeg m) := pe_imp (pe_un un_neg ha) fun σ H Q ⟨F, Ω, S, w, w', d, R, hm, q⟩ => by
  unfold mNeg at hm
  obtain ⟨⟨d0, w1⟩, h1, hm⟩ := Option.bind_eq_some_iff.mp hm
  obtain ⟨d', h4, hm⟩ := Option.map_eq_some_iff.mp hm
  cases hm
  cases d0 with
  | int i =>
    cases h4
    exact ⟨F, Ω, S, w, _, .int i, R, h1, fun v H1 R1 e1 hv => ⟨i, hv.int_inv, q _ H1 R1 e1 (.int _)⟩⟩
  | _ => cases h4
end

/-! ### a < b < c -/
def mCh2 (g g' : PyData → PyData → Option PyData) (ma mb mc : ME) : ME := fun S w => (ma S w).bind fun p => (mb S p.2).bind fun q => (g p.1 q.1).bind fun d => match d with
  | .bool true => (mc S q.2).bind fun r => (g' q.1 r.1).map fun d' => (d', r.2)
  | .bool false => some (.bool false, q.2)
  | _ => none
def mCh3 (g g' g'' : PyData → PyData → Option PyData) (ma mb mc md : ME) : ME := fun S w => (ma S w).bind fun p => (mb S p.2).bind fun q => (g p.1 q.1).bind fun d => match d with
  | .bool true => (mc S q.2).bind fun r => (g' q.1 r.1).bind fun d' => match d' with
    | .bool true => (md S r.2).bind fun t => (g'' r.1 t.1).map fun d'' => (d'', t.2)
    | .bool false => some (.bool false, r.2)
    | _ => none
  | .bool false => some (.bool false, q.2)
  | _ => none
section
variable {β : Bool} {X : Cx} {a b c d e : Expr} {pos : Pos} {ra rb rc rd : Strg} {ma mb mc md m : ME} {op op' op'' : CmpOp} {rl rl' rl'' : R2} {g g' g'' : PyData → PyData → Option PyData}
theorem ch2_imp (hg : Op2 β ra rb rl g) (hg' : Op2 β rb rc rl' g') {σ : L2.St} {H : Hp} {Q : VK} (h : tEv β .esc (mCh2 g g' ma mb mc) σ H Q) : tChain rl rl' (tEv β ra ma) (tEv β rb mb) (tEv β rc mc) σ H Q := by
  obtain ⟨F, Ω, S, w, w', d, R, hm, q⟩ := h
  unfold mCh2 at hm
  obtain ⟨⟨dx, w1⟩, h1, hm⟩ := Option.bind_eq_some_iff.mp hm
  obtain ⟨⟨dy, w2⟩, h2, hm⟩ := Option.bind_eq_some_iff.mp hm
  obtain ⟨d', h3, hm⟩ := Option.bind_eq_some_iff.mp hm
  refine ⟨F, Ω, S, w, w1, dx, R, h1, fun x H1 R1 e1 hx => ⟨F, Ω, S, w1, w2, dy, R1, h2, fun y H2 R2 e2 hy => hg F H2 Ω σ S _ x y dx dy _ _ R2 (hx.mono R1 e2) hy h3 fun v H3 e3 hv => ?_⟩⟩
  have R3 := R2.ex e3
  have ev := (e1.trans e2).trans e3.evs
  cases d' with
  | bool k =>
    refine ⟨k, Dv.bl_inv hv, ?_⟩
    cases k with
    | true =>
      dsimp only at hm
      obtain ⟨⟨dz, w3⟩, h4, hm⟩ := Option.bind_eq_some_iff.mp hm
      obtain ⟨d'', h5, hm⟩ := Option.map_eq_some_iff.mp hm
      cases hm
      refine iteT ⟨F, Ω, S, w2, _, dz, R3, h4, fun z H4 R4 e4 hz => ?_⟩
      exact hg' F H4 Ω σ S _ y z dy dz _ _ R4 ((hy.mono R2 e3.evs).mono R3 e4) hz h5 fun u H5 e5 hu => q u H5 (R4.ex e5) ((ev.trans e4).trans e5.evs) hu
    | false =>
      cases hm
      exact iteF (q (.bl false) H3 R3 ev (Dv.bl false))
  | _ => cases hm
theorem de_ch2 (ho : OpR X (compareOp op) rl) (ho' : OpR X (compareOp op') rl') (hg : Op2 β ra rb rl g) (hg' : Op2 β rb rc rl' g') (ha : DE β ra X a ma) (hb : DE β rb X b mb) (hc : DE β rc X c mc) (hm : lastMarks [op, op'] [b, c] = false := by with_unfolding_all rfl) :
    DE β .esc X (.Compare a [op, op'] [b, c] pos) (mCh2 g g' ma mb mc) := pe_imp (pe_chain ho ho' ha hb hc hm) fun _ _ _ h => ch2_imp hg hg' h
theorem dt_ch2 (ho : OpR X (compareOp op) rl) (ho' : OpR X (compareOp op') rl') (hg : Op2 β ra rb rl g) (hg' : Op2 β rb rc rl' g') (ha : DE β ra X a ma) (hb : DE β rb X b mb) (hc : DE β rc X c mc) (hm : lastMarks [op, op'] [b, c] = false := by with_unfolding_all rfl) :
    DT β X (.Compare a [op, op'] [b, c] pos) (mB (mCh2 g g' ma mb mc)) := pt_imp (pt_chain ho ho' ha hb hc hm) fun σ H Q h => by
  obtain ⟨F, Ω, S, w, w', d, R, hm, q⟩ := tB_imp h
  exact ch2_imp hg hg' ⟨F, Ω, S, w, w', d, R, hm, q⟩
/-- three links, as a test -/
def tChain3 (r r' r'' : R2) (ta tb tc td : TE) : TT := fun σ H Q => ta σ H fun x H1 => tb σ H1 fun y H2 => r x y H2 fun z H3 => ∃ k, z = .bl k ∧ (if k = true then tc σ H3 fun u H4 => r' y u H4 fun z' H5 => ∃ k', z' = .bl k' ∧
  (if k' = true then td σ H5 fun t H6 => r'' u t H6 fun z'' H7 => ∃ k'', z'' = .bl k'' ∧ Q k'' H7 else Q false H5) else Q false H3)
theorem pt_chain3 {ta tb tc td : TE} (ho : OpR X (compareOp op) rl) (ho' : OpR X (compareOp op') rl') (ho'' : OpR X (compareOp op'') rl'') (ha : PE X a ta) (hb : PE X b tb) (hc : PE X c tc) (hd : PE X d td)
    (hm : lastMarks [op, op', op''] [b, c, d] = false := by with_unfolding_all rfl) : PT X (.Compare a [op, op', op''] [b, c, d] pos) (tChain3 rl rl' rl'' ta tb tc td) := by
  refine ⟨fun pins s σ H Q I h => isTrue_chain (thn (ha.run pins s σ H _ I h) fun v1 s1 ⟨x1, H1, I1, r1, q1⟩ => test_link (thn (hb.run pins s1 σ H1 _ I1 q1) fun v2 s2 ⟨x2, H2, I2, r2, q2⟩ =>
    thn (ho pins s2 σ H2 x1 x2 v1 v2 _ I2 r1 r2 q2) fun d1 s3 ⟨z1, H3, I3, r3, k1, e1, q3⟩ => ?_)) hm⟩
  subst e1
  cases r3
  refine wpAny_truthy_bool ?_
  cases k1 with
  | false => exact ite_ff ⟨H3, I3, q3⟩
  | true =>
    refine ite_tt (test_link (thn (hc.run pins s3 σ H3 _ I3 q3) fun v4 s4 ⟨x4, H4, I4, r4, q4⟩ => thn (ho' pins s4 σ H4 x2 x4 v2 v4 _ I4 r2 r4 q4) fun d2 s5 ⟨z2, H5, I5, r5, k2, e2, q5⟩ => ?_))
    subst e2
    cases r5
    refine wpAny_truthy_bool ?_
    cases k2 with
    | false => exact ite_ff ⟨H5, I5, q5⟩
    | true =>
      refine ite_tt (test_last (thn (hd.run pins s5 σ H5 _ I5 q5) fun v6 s6 ⟨x6, H6, I6, r6, q6⟩ => thn (ho'' pins s6 σ H6 x4 x6 v4 v6 _ I6 r4 r6 q6) fun d3 s7 ⟨z3, H7, I7, r7, k3, e3, q7⟩ => ?_))
      subst e3
      cases r7
      exact wpAny_truthy_bool ⟨H7, I7, q7⟩
theorem dt_ch3 (ho : OpR X (compareOp op) rl) (ho' : OpR X (compareOp op') rl') (ho'' : OpR X (compareOp op'') rl'') (hg : Op2 β ra rb rl g) (hg' : Op2 β rb rc rl' g') (hg'' : Op2 β rc rd rl'' g'') (ha : DE β ra X a ma) (hb : DE β rb X b mb) (hc : DE β rc X c mc) (hd : DE β rd X d md)
    (hm : lastMarks [op, op', op''] [b, c, d] = false := by with_unfolding_all rfl) : DT β X (.Compare a [op, op', op''] [b, c, d] pos) (mB (mCh3 g g' g'' ma mb mc md)) := pt_imp (pt_chain3 ho ho' ho'' ha hb hc hd hm) fun σ H Q ⟨F, Ω, S, w, w', k, R, hmm, q⟩ => by
  unfold mB mCh3 at hmm
  obtain ⟨⟨df, wf⟩, hf, hk⟩ := Option.bind_eq_some_iff.mp hmm
  obtain ⟨⟨dx, w1⟩, h1, hf⟩ := Option.bind_eq_some_iff.mp hf
  obtain ⟨⟨dy, w2⟩, h2, hf⟩ := Option.bind_eq_some_iff.mp hf
  obtain ⟨d1, h3, hf⟩ := Option.bind_eq_some_iff.mp hf
  refine ⟨F, Ω, S, w, w1, dx, R, h1, fun x H1 R1 e1 hx => ⟨F, Ω, S, w1, w2, dy, R1, h2, fun y H2 R2 e2 hy => hg F H2 Ω σ S _ x y dx dy _ _ R2 (hx.mono R1 e2) hy h3 fun z H3 e3 hz => ?_⟩⟩
  have R3 := R2.ex e3
  have ev3 := (e1.trans e2).trans e3.evs
  cases d1 with
  | bool b1 =>
    refine ⟨b1, Dv.bl_inv hz, ?_⟩
    cases b1 with
    | false =>
      cases hf
      cases hk
      exact iteF (q H3 R3 ev3)
    | true =>
      dsimp only at hf
      obtain ⟨⟨dz, w3⟩, h4, hf⟩ := Option.bind_eq_some_iff.mp hf
      obtain ⟨d2, h5, hf⟩ := Option.bind_eq_some_iff.mp hf
      refine iteT ⟨F, Ω, S, w2, w3, dz, R3, h4, fun u H4 R4 e4 hu => hg' F H4 Ω σ S _ y u dy dz _ _ R4 ((hy.mono R2 e3.evs).mono R3 e4) hu h5 fun z5 H5 e5 hz5 => ?_⟩
      have R5 := R4.ex e5
      have ev5 := (ev3.trans e4).trans e5.evs
      cases d2 with
      | bool b2 =>
        refine ⟨b2, Dv.bl_inv hz5, ?_⟩
        cases b2 with
        | false =>
          cases hf
          cases hk
          exact iteF (q H5 R5 ev5)
        | true =>
          dsimp only at hf
          obtain ⟨⟨dt, w4⟩, h6, hf⟩ := Option.bind_eq_some_iff.mp hf
          obtain ⟨d3, h7, hf⟩ := Option.map_eq_some_iff.mp hf
          cases hf
          refine iteT ⟨F, Ω, S, w3, _, dt, R5, h6, fun t H6 R6 e6 ht => hg'' F H6 Ω σ S _ u t dz dt _ _ R6 ((hu.mono R4 e5.evs).mono R5 e6) ht h7 fun z7 H7 e7 hz7 => ?_⟩
          cases df with
          | bool b3 =>
            cases hk
            exact ⟨_, Dv.bl_inv hz7, q H7 (R6.ex e7) ((ev5.trans e6).trans e7.evs)⟩
          | _ => cases hk
      | _ => cases hf
  | _ => cases hf
end
end Mini

set_option Elab.async false
set_option linter.all false
set_option maxRecDepth 100000
set_option maxHeartbeats 4000000
/-! Mini J: the draws' state. -/
namespace Mini
open PySem PySem.Spec PyProof.Rows L2

def drwGet (w : Drw) : Nat → Option Int
  | 1 => some w.at_
  | 2 => some w.cur
  | 3 => some w.left
  | 4 => some w.seed
  | 5 => some w.cnt
  | _ => none
def drwSet (w : Drw) (k : Nat) (z : Int) : Option Drw := match k with
  | 1 => if 0 ≤ z ∧ z ≤ 63 then some { w with at_ := z } else none
  | 2 => if 0 ≤ z ∧ (z ≤ w.cur ∨ z ∈ w.cells) then some { w with cur := z } else none
  | 3 => if 0 ≤ z ∧ z ≤ 60 then some { w with left := z } else none
  | 4 => if 0 ≤ z ∧ z < 2147483647 then some { w with seed := z } else none
  | 5 => if 0 ≤ z ∧ z < 2 ^ 62 then some { w with cnt := z } else none
  | _ => none
def stV (c : Addr) (w : Drw) : List V := [.ref c, .int w.at_, .int w.cur, .int w.left, .int w.seed, .int w.cnt]
theorem drwGet_at {c : Addr} {w : Drw} {k : Nat} {z : Int} (h : drwGet w k = some z) : atI (stV c w) (k : Int) = some (.int z) := by
  match k, h with
  | 1, h => cases h; rfl
  | 2, h => cases h; rfl
  | 3, h => cases h; rfl
  | 4, h => cases h; rfl
  | 5, h => cases h; rfl
theorem drwSet_set {c : Addr} {w w' : Drw} {k : Nat} {z : Int} (h : drwSet w k z = some w') : ixN (stV c w).length (k : Int) = some k ∧ (stV c w).set k (.int z) = stV c w' ∧ w'.cells = w.cells := by
  match k, h with
  | 1, h => obtain ⟨_, rfl⟩ := ite_some h; exact ⟨rfl, rfl, rfl⟩
  | 2, h => obtain ⟨_, rfl⟩ := ite_some h; exact ⟨rfl, rfl, rfl⟩
  | 3, h => obtain ⟨_, rfl⟩ := ite_some h; exact ⟨rfl, rfl, rfl⟩
  | 4, h => obtain ⟨_, rfl⟩ := ite_some h; exact ⟨rfl, rfl, rfl⟩
  | 5, h => obtain ⟨_, rfl⟩ := ite_some h; exact ⟨rfl, rfl, rfl⟩
theorem drwSet_ok {w w' : Drw} {k : Nat} {z : Int} (h : drwSet w k z = some w') (o : w.Ok) : w'.Ok := by
  match k, h with
  | 1, h => obtain ⟨c, rfl⟩ := ite_some h; exact { o with at0 := c.1, at1 := c.2 }
  | 2, h =>
    obtain ⟨c, rfl⟩ := ite_some h
    refine { o with cur0 := c.1, cur1 := ?_ }
    rcases c.2 with q | q
    · have a := o.cur0
      have b := o.cur1
      show z.natAbs < _
      exact Nat.lt_of_le_of_lt (by omega) b
    · exact (o.big z q).2
  | 3, h => obtain ⟨c, rfl⟩ := ite_some h; exact { o with left0 := c.1, left1 := c.2 }
  | 4, h => obtain ⟨c, rfl⟩ := ite_some h; exact { o with seed0 := c.1, seed1 := c.2 }
  | 5, h => obtain ⟨c, rfl⟩ := ite_some h; exact { o with cnt0 := c.1, cnt1 := c.2 }
section
variable {β : Bool} {F : Fx β} {H : Hp} {Ω : AS} {σ : L2.St} {S : SEnv} {w w' : Drw} {i : Nat}
theorem Rel.state (R : Rel F H Ω σ S w) (hi : S[i]? = some .stt) : ∃ s, F.st = some s ∧ σ[i]? = some (some (.ref s)) ∧ H s = some (.lst (stV F.cl w)) ∧ H F.cl = some (.lst (w.cells.map V.int)) ∧ F.cl ≠ s ∧ w.Ok ∧ F.Ψ s ∧ F.Ψ F.cl := by
  obtain ⟨s, s1, s2⟩ := R.slot i _ hi
  have k := R.wok
  rw [s1] at k
  exact ⟨s, s1, s2, k.2.2.2.1, k.2.2.2.2.1, k.2.2.1, k.2.2.2.2.2, k.1, k.2.1⟩
theorem gst {k : Nat} {z : Int} {Q : L2.St → Hp → Prop} (R : Rel F H Ω σ S w) (hi : S[i]? = some .stt) (hs : drwSet w k z = some w') (q : ∀ H', Rel F H' Ω σ S w' → Evs F.st H H' → Q σ H') : gSub (tVar i) (tC (.int (k : Int))) rSetL (.int z) σ H Q := by
  obtain ⟨s, s1, s2, s3, s4, s5, s6, s7, s8⟩ := R.state hi
  obtain ⟨k1, k2, k3⟩ := drwSet_set (c := F.cl) hs
  refine ⟨.ref s, s2, s, _, (k : Int), k, rfl, rfl, s3, k1, ?_⟩
  rw [k2]
  have ev : Evs F.st H (upd H s (.lst (stV F.cl w'))) := fun a o h n => by
    rw [upd_ne (fun z => n (by rw [z]; exact s1))]
    exact h
  refine q _ (R.evs ev ?_) ev
  rw [s1]
  exact ⟨s7, s8, s5, upd_same, by rw [upd_ne s5, k3]; exact s4, drwSet_ok hs s6⟩
end
def mSt (i k : Nat) : ME := fun S w => match S[i]? with
  | some .stt => (drwGet w k).map fun z => (.int z, w)
  | _ => none
def mStLen (i : Nat) : ME := fun S w => match S[i]? with
  | some .stt => some (.int w.cells.length, w)
  | _ => none
def mStCell (i : Nat) (m : ME) : ME := fun S w => match S[i]? with
  | some .stt => (m S w).bind fun q => match q.1 with
    | .int n => (atI q.2.cells n).map fun z => (.int z, q.2)
    | _ => none
  | _ => none
def sSt (i k : Nat) (m : ME) : MS := fun S w => match S[i]? with
  | some .stt => (m S w).bind fun q => match q.1 with
    | .int z => (drwSet q.2 k z).map fun w2 => (.nx, S, w2)
    | _ => none
  | _ => none
def sSt3 (i k1 k2 k3 : Nat) (m : MA) : MS := fun S w => match S[i]? with
  | some .stt => (m S w).bind fun q => match q.1 with
    | [.int a, .int b, .int c] => (drwSet q.2 k1 a).bind fun w1 => (drwSet w1 k2 b).bind fun w2 => (drwSet w2 k3 c).map fun w3 => (.nx, S, w3)
    | _ => none
  | _ => none
section
variable {β : Bool} {X : Cx} {e : Expr} {y x : Str} {i k : Nat} {j : Nat} {pos p1 p2 p3 p4 p5 p6 p7 p8 p9 p10 : Pos} {m : ME} {mr : MA}
theorem de_st (hv : PE X (.Name y p1) (tVar i)) : DE β .esc X (.Subscript (.Name y p1) (.Constant (.int (k : Int)) j p2) pos) (mSt i k) := pe_imp (pe_ix ixr hv pe_int (by exact fun _ _ => rfl)) fun σ H Q ⟨F, Ω, S, w, w', d, R, hm, q⟩ => by
  unfold mSt at hm
  split at hm
  · rename_i hi
    obtain ⟨z, h1, hm⟩ := Option.map_eq_some_iff.mp hm
    cases hm
    obtain ⟨s, s1, s2, s3, s4, s5, s6, s7, s8⟩ := R.state hi
    exact ⟨.ref s, s2, .inl ⟨s, _, _, _, rfl, rfl, .of s3, drwGet_at h1, q _ H R (Evs.refl _ _) (Dv.int z)⟩⟩
  · cases hm
theorem pe_stc (hv : PE X (.Name y p1) (tVar i)) : PE X (.Subscript (.Name y p1) (.Constant (.int 0) j p2) pos) (fun σ H Q => ∃ (F : Fx β) (Ω : AS) (S : SEnv) (w : Drw), Rel F H Ω σ S w ∧ S[i]? = some .stt ∧ Q (.ref F.cl) H) := pe_imp (pe_ix ixr hv pe_int (by exact fun _ _ => rfl)) fun σ H Q ⟨F, Ω, S, w, R, hi, q⟩ => by
  obtain ⟨s, s1, s2, s3, s4, s5, s6, s7, s8⟩ := R.state hi
  exact ⟨.ref s, s2, .inl ⟨s, _, _, _, rfl, rfl, .of s3, rfl, q⟩⟩
theorem de_stLen (hv : PE X (.Name y p1) (tVar i)) (hg : Gl X "len") (hm : X.mg "len" = none) : DE β .esc X (.Call (.Name "len" p3) [.Subscript (.Name y p1) (.Constant (.int 0) j p2) p4] [] pos) (mStLen i) :=
  pe_imp (pe_callB call_len_seq hg hm PySem.boot_len (pa_cons (pe_stc (β := β) hv) pa_nil)) fun σ H Q ⟨F, Ω, S, w, w', d, R, hm, q⟩ => by
  unfold mStLen at hm
  split at hm
  · rename_i hi
    cases hm
    obtain ⟨s, s1, s2, s3, s4, s5, s6, s7, s8⟩ := R.state hi
    refine ⟨F, Ω, S, _, R, hi, F.cl, _, rfl, .inl (.of s4), ?_⟩
    rw [List.length_map]
    exact q _ H R (Evs.refl _ _) (Dv.int _)
  · cases hm
theorem de_stCell (hv : PE X (.Name y p1) (tVar i)) (he : DE β .esc X e m) (hp : PlainIx e := by exact fun _ _ => rfl) : DE β .esc X (.Subscript (.Subscript (.Name y p1) (.Constant (.int 0) j p2) p4) e pos) (mStCell i m) :=
  pe_imp (pe_ix ixr (pe_stc (β := β) hv) he hp) fun σ H Q ⟨F, Ω, S, w, w', d, R, hm, q⟩ => by
  unfold mStCell at hm
  split at hm
  · rename_i hi
    obtain ⟨⟨n, w1⟩, h1, hm⟩ := Option.bind_eq_some_iff.mp hm
    cases n with
    | int n =>
      obtain ⟨z, h2, hm⟩ := Option.map_eq_some_iff.mp hm
      cases hm
      refine ⟨F, Ω, S, w, R, hi, F, Ω, S, w, _, .int n, R, h1, fun v H1 R1 e1 hv => ?_⟩
      obtain ⟨s, s1, s2, s3, s4, s5, s6, s7, s8⟩ := R1.state hi
      refine .inl ⟨F.cl, _, n, .int z, rfl, Dv.int_inv hv, .of s4, ?_, q _ H1 R1 e1 (Dv.int z)⟩
      unfold atI at h2 ⊢
      rw [List.length_map]
      cases hx : ixN w1.cells.length n with
      | none => rw [hx] at h2; cases h2
      | some jj =>
        rw [hx] at h2
        rw [Option.bind_some, List.getElem?_map, show w1.cells[jj]? = some z from h2]
        rfl
    | _ => cases hm
  · cases hm
theorem ds_st (hv : PE X (.Name y p1) (tVar i)) (he : DE β .esc X e m)
    (ha : ∀ v, assign (.Subscript (.Name y p1) (.Constant (.int (k : Int)) j p2) p3) X.env v = (do
      let ov ← holding [v] (eval (.Name y p1) X.env)
      let iv ← holding [v, ov] (eval (.Constant (.int (k : Int)) j p2) X.env)
      standAt p3
      holding [v, ov, iv] (setItem ov iv v)
      release [v, ov, iv] []) := by intro _; rfl) (hs : swapsWithSole [.Subscript (.Name y p1) (.Constant (.int (k : Int)) j p2) p3] e pos.line X.env = pure false := by rfl) (hw : swappedStores [.Subscript (.Name y p1) (.Constant (.int (k : Int)) j p2) p3] e X.env = pure none := by rfl)
    (h1 : (assignEach [.Subscript (.Name y p1) (.Constant (.int (k : Int)) j p2) p3] X.env).map (·.2) = [assign (.Subscript (.Name y p1) (.Constant (.int (k : Int)) j p2) p3) X.env] := by rfl) :
    DS β X (.Assign [.Subscript (.Name y p1) (.Constant (.int (k : Int)) j p2) p3] e pos) (sSt i k m) := ps_imp (ps_asg he (pg_sub hv pe_int set_list ha) hs hw h1) fun D σ H ⟨F, Ω, S, w, fl, S', w', R, hm, q⟩ => by
  unfold sSt at hm
  split at hm
  · rename_i hi
    obtain ⟨⟨d, w1⟩, h1, hm⟩ := Option.bind_eq_some_iff.mp hm
    cases d with
    | int z =>
      obtain ⟨w2, h2, hm⟩ := Option.map_eq_some_iff.mp hm
      cases hm
      refine ⟨F, Ω, S, w, w1, .int z, R, h1, fun v H1 R1 e1 hv => ?_⟩
      rw [Dv.int_inv hv]
      exact gst R1 hi h2 fun H2 R2 e2 => q σ H2 Ω R2 ((R.grow e1).trans (R1.grow e2))
    | _ => cases hm
  · cases hm
/-- state[a], state[b], state[c] = (.., .., ..) -/
theorem ds_st3 {k1 k2 k3 j1 j2 j3 kt k0 : Nat} {q1 q2 q3 q4 q5 q6 q7 q8 q9 qt qe : Pos} {es : List Expr} (hc : X.calm = true) (v1 : PE X (.Name y q1) (tVar i)) (v2 : PE X (.Name y q4) (tVar i)) (v3 : PE X (.Name y q7) (tVar i)) (he : DA β .esc X es mr)
    (a1 : ∀ v, assign (.Subscript (.Name y q1) (.Constant (.int (k1 : Int)) j1 q2) q3) X.env v = (do
      let ov ← holding [v] (eval (.Name y q1) X.env)
      let iv ← holding [v, ov] (eval (.Constant (.int (k1 : Int)) j1 q2) X.env)
      standAt q3
      holding [v, ov, iv] (setItem ov iv v)
      release [v, ov, iv] []) := by intro _; rfl)
    (a2 : ∀ v, assign (.Subscript (.Name y q4) (.Constant (.int (k2 : Int)) j2 q5) q6) X.env v = (do
      let ov ← holding [v] (eval (.Name y q4) X.env)
      let iv ← holding [v, ov] (eval (.Constant (.int (k2 : Int)) j2 q5) X.env)
      standAt q6
      holding [v, ov, iv] (setItem ov iv v)
      release [v, ov, iv] []) := by intro _; rfl)
    (a3 : ∀ v, assign (.Subscript (.Name y q7) (.Constant (.int (k3 : Int)) j3 q8) q9) X.env v = (do
      let ov ← holding [v] (eval (.Name y q7) X.env)
      let iv ← holding [v, ov] (eval (.Constant (.int (k3 : Int)) j3 q8) X.env)
      standAt q9
      holding [v, ov, iv] (setItem ov iv v)
      release [v, ov, iv] []) := by intro _; rfl)
    (c1 : (assignEach [.Subscript (.Name y q1) (.Constant (.int (k1 : Int)) j1 q2) q3, .Subscript (.Name y q4) (.Constant (.int (k2 : Int)) j2 q5) q6, .Subscript (.Name y q7) (.Constant (.int (k3 : Int)) j3 q8) q9] X.env).map (·.2) =
      assign (.Subscript (.Name y q1) (.Constant (.int (k1 : Int)) j1 q2) q3) X.env :: (assignEach [.Subscript (.Name y q4) (.Constant (.int (k2 : Int)) j2 q5) q6, .Subscript (.Name y q7) (.Constant (.int (k3 : Int)) j3 q8) q9] X.env).map (·.2) := by rfl)
    (c2 : (assignEach [.Subscript (.Name y q4) (.Constant (.int (k2 : Int)) j2 q5) q6, .Subscript (.Name y q7) (.Constant (.int (k3 : Int)) j3 q8) q9] X.env).map (·.2) =
      assign (.Subscript (.Name y q4) (.Constant (.int (k2 : Int)) j2 q5) q6) X.env :: (assignEach [.Subscript (.Name y q7) (.Constant (.int (k3 : Int)) j3 q8) q9] X.env).map (·.2) := by rfl)
    (c3 : (assignEach [.Subscript (.Name y q7) (.Constant (.int (k3 : Int)) j3 q8) q9] X.env).map (·.2) = assign (.Subscript (.Name y q7) (.Constant (.int (k3 : Int)) j3 q8) q9) X.env :: (assignEach [] X.env).map (·.2) := by rfl)
    (hn : (assignEach [.Subscript (.Name y q1) (.Constant (.int (k1 : Int)) j1 q2) q3, .Subscript (.Name y q4) (.Constant (.int (k2 : Int)) j2 q5) q6, .Subscript (.Name y q7) (.Constant (.int (k3 : Int)) j3 q8) q9] X.env).length = 3 := by rfl)
    (hst : (assignEach [.Subscript (.Name y q1) (.Constant (.int (k1 : Int)) j1 q2) q3, .Subscript (.Name y q4) (.Constant (.int (k2 : Int)) j2 q5) q6, .Subscript (.Name y q7) (.Constant (.int (k3 : Int)) j3 q8) q9] X.env).findIdx? (·.1) = none := by rfl)
    (hs : swapsWithSole [.Tuple [.Subscript (.Name y q1) (.Constant (.int (k1 : Int)) j1 q2) q3, .Subscript (.Name y q4) (.Constant (.int (k2 : Int)) j2 q5) q6, .Subscript (.Name y q7) (.Constant (.int (k3 : Int)) j3 q8) q9] kt qt] (.Tuple es k0 qe) pos.line X.env = pure false := by rfl)
    (hw : swappedStores [.Tuple [.Subscript (.Name y q1) (.Constant (.int (k1 : Int)) j1 q2) q3, .Subscript (.Name y q4) (.Constant (.int (k2 : Int)) j2 q5) q6, .Subscript (.Name y q7) (.Constant (.int (k3 : Int)) j3 q8) q9] kt qt] (.Tuple es k0 qe) X.env = pure none := by rfl)
    (h1 : (assignEach [.Tuple [.Subscript (.Name y q1) (.Constant (.int (k1 : Int)) j1 q2) q3, .Subscript (.Name y q4) (.Constant (.int (k2 : Int)) j2 q5) q6, .Subscript (.Name y q7) (.Constant (.int (k3 : Int)) j3 q8) q9] kt qt] X.env).map (·.2) =
      [assign (.Tuple [.Subscript (.Name y q1) (.Constant (.int (k1 : Int)) j1 q2) q3, .Subscript (.Name y q4) (.Constant (.int (k2 : Int)) j2 q5) q6, .Subscript (.Name y q7) (.Constant (.int (k3 : Int)) j3 q8) q9] kt qt) X.env] := by rfl) :
    DS β X (.Assign [.Tuple [.Subscript (.Name y q1) (.Constant (.int (k1 : Int)) j1 q2) q3, .Subscript (.Name y q4) (.Constant (.int (k2 : Int)) j2 q5) q6, .Subscript (.Name y q7) (.Constant (.int (k3 : Int)) j3 q8) q9] kt qt] (.Tuple es k0 qe) pos) (sSt3 i k1 k2 k3 mr) :=
  ps_imp (ps_asg (pe_tup he) (pg_tup hc (pgs_cons (pg_sub v1 pe_int set_list a1) (pgs_cons (pg_sub v2 pe_int set_list a2) (pgs_cons (pg_sub v3 pe_int set_list a3) pgs_nil c3) c2) c1) hn hst) hs hw h1) fun D σ H ⟨F, Ω, S, w, fl, S', w', R, hm, q⟩ => by
  unfold sSt3 at hm
  split at hm
  · rename_i hi
    obtain ⟨⟨ds, w1⟩, h1, hm⟩ := Option.bind_eq_some_iff.mp hm
    match ds, h1, hm with
    | [.int a, .int b, .int c], h1, hm =>
      obtain ⟨u1, g1, hm⟩ := Option.bind_eq_some_iff.mp hm
      obtain ⟨u2, g2, hm⟩ := Option.bind_eq_some_iff.mp hm
      obtain ⟨u3, g3, hm⟩ := Option.map_eq_some_iff.mp hm
      cases hm
      refine ⟨F, Ω, S, w, w1, _, R, h1, fun vs H1 R1 e1 hv => ⟨by rw [hv.dv.length]; exact LB_line (show 3 ≤ LB by decide), fun p hp => ?_⟩⟩
      cases hv with
      | cons va t =>
        obtain ⟨vb, vc, rfl, hb, hc⟩ := t.two
        rw [Dv.int_inv va, Dv.int_inv hb, Dv.int_inv hc] at *
        have ex : Ext H1 (upd H1 p (.tup [.int a, .int b, .int c])) := .new hp
        refine ⟨p, _, rfl, .inl (.inl upd_same), rfl, .int a, _, rfl, gst (R1.ex ex) hi g1 fun H2 R2 e2 => ⟨.int b, _, rfl, gst R2 hi g2 fun H3 R3 e3 => ⟨.int c, _, rfl, gst R3 hi g3 fun H4 R4 e4 => ⟨rfl, ?_⟩⟩⟩⟩
        exact q σ H4 Ω R4 (R.grow ((((e1.trans ex.evs).trans e2).trans e3).trans e4))
  · cases hm
end
end Mini

set_option Elab.async false
set_option linter.all false
set_option maxRecDepth 100000
set_option maxHeartbeats 4000000
set_option exponentiation.threshold 10000
/-! Mini K: repr, the defs that all laws share, the law's own def. -/
namespace Mini
open PySem PySem.Spec PyProof.Rows L2

/-! ### repr -/
mutual
def wt : PyData → Nat
  | .none => 4
  | .bool _ => 5
  | .int _ => 1921
  | .str x => (reprText x).length
  | .list xs => 2 + wtA xs
  | .tuple xs => 3 + wtA xs
  | .dict _ => 0
def wtA : List PyData → Nat
  | [] => 0
  | x :: xs => wt x + 2 + wtA xs
end
theorem textFrom_le : ∀ (ts : List Str) (k : Nat) (acc : Str), (textFrom k acc ts).length ≤ acc.length + piled ts
  | [], k, acc => Nat.le_add_right _ _
  | t :: r, k, acc => by
    have h := textFrom_le r (k + 1) (acc ++ (if k > 0 then ", " else "" : String) ++ t)
    have e : (acc ++ (if k > 0 then ", " else "" : String) ++ t).length = acc.length + (if k > 0 then 2 else 0) + t.length := by
      rw [strLen_append, strLen_append]
      split <;> rfl
    rw [e] at h
    show (textFrom (k + 1) _ r).length ≤ acc.length + ((t.length + 2) + (r.map fun t => t.length + 2).sum)
    have d : (if k > 0 then 2 else 0 : Nat) ≤ 2 := by split <;> omega
    unfold piled at h
    omega
mutual
theorem shown_le : ∀ (n : Nat) (d : PyData), shp n d = true → d.showable = true → d.shown.length ≤ wt d
  | _, .none, _, _ => by simp only [PyData.shown, wt]; decide
  | _, .bool b, _, _ => by simp only [PyData.shown, wt]; cases b <;> decide
  | _, .int i, _, h => by
    simp only [PyData.showable, decide_eq_true_eq] at h
    simp only [PyData.shown, wt]
    have e := int_text_length_le (k := 1920) (by decide) h
    show (Str.ofString (toString i)).length ≤ 1921
    rw [PySem.ofString_length]
    exact e
  | _, .str x, _, _ => by simp only [PyData.shown, wt]; exact Nat.le_refl _
  | n, .list xs, hs, h => by
    cases n with
    | zero => simp [shp] at hs
    | succ n =>
      simp only [PyData.showable] at h
      simp only [PyData.shown, wt]
      have k := shownA_le n xs (by simpa [shp] using hs) h
      unfold listText
      have t := textFrom_le (PyData.shownAll xs) 0 ("[" : Str)
      have e : (textFrom 0 "[" (PyData.shownAll xs) ++ ("]" : Str)).length = (textFrom 0 "[" (PyData.shownAll xs)).length + 1 := strLen_append _ _
      have e1 : ("[" : Str).length = 1 := by decide
      rw [e]
      rw [e1] at t
      omega
  | n, .tuple xs, hs, h => by
    cases n with
    | zero => simp [shp] at hs
    | succ n =>
      simp only [PyData.showable] at h
      simp only [PyData.shown, wt]
      have k := shownA_le n xs (by simpa [shp] using hs) h
      unfold tupleText
      rw [strLen_append, strLen_append]
      have e1 : ("(" : Str).length = 1 := by decide
      have e2 : ((if (PyData.shownAll xs).length == 1 then ",)" else ")" : String) : Str).length ≤ 2 := by split <;> decide
      rw [e1]
      by_cases z : PyData.shownAll xs = []
      · rw [z]
        have e3 : (Str.join ", " ([] : List Str)).length = 0 := by decide
        rw [e3]
        rw [z] at e2
        omega
      · have j := join_length_add _ z
        omega
  | n, .dict ps, hs, h => by cases n <;> simp [shp] at hs
theorem shownA_le : ∀ (n : Nat) (xs : List PyData), xs.all (shp n) = true → PyData.showableAll xs = true → piled (PyData.shownAll xs) ≤ wtA xs
  | _, [], _, _ => by simp [PyData.shownAll, piled, wtA]
  | n, x :: xs, hs, h => by
    rw [List.all_cons, Bool.and_eq_true] at hs
    simp only [PyData.showableAll, Bool.and_eq_true] at h
    have a := shown_le n x hs.1 h.1
    have b := shownA_le n xs hs.2 h.2
    simp only [PyData.shownAll, wtA]
    show ((PyData.shown x).length + 2) + ((PyData.shownAll xs).map fun t => t.length + 2).sum ≤ _
    unfold piled at b
    omega
end
theorem shp_noDict : ∀ (n : Nat) (d : PyData), shp n d = true → d.hasDict = false
  | _, .none, _ => by simp only [PyData.hasDict]
  | _, .bool b, _ => by simp only [PyData.hasDict]
  | _, .int i, _ => by simp only [PyData.hasDict]
  | _, .str x, _ => by simp only [PyData.hasDict]
  | n, .list xs, hs => by
    cases n with
    | zero => simp [shp] at hs
    | succ n =>
      simp only [PyData.hasDict]
      have k : ∀ ys : List PyData, ys.all (shp n) = true → PyData.hasDictAll ys = false := fun ys => by
        induction ys with
        | nil => intro _; rfl
        | cons y ys ih =>
          intro q
          rw [List.all_cons, Bool.and_eq_true] at q
          simp only [PyData.hasDictAll, shp_noDict n y q.1, ih q.2, Bool.or_self]
      exact k xs (by simpa [shp] using hs)
  | n, .tuple xs, hs => by
    cases n with
    | zero => simp [shp] at hs
    | succ n =>
      simp only [PyData.hasDict]
      have k : ∀ ys : List PyData, ys.all (shp n) = true → PyData.hasDictAll ys = false := fun ys => by
        induction ys with
        | nil => intro _; rfl
        | cons y ys ih =>
          intro q
          rw [List.all_cons, Bool.and_eq_true] at q
          simp only [PyData.hasDictAll, shp_noDict n y q.1, ih q.2, Bool.or_self]
      exact k xs (by simpa [shp] using hs)
  | n, .dict ps, hs => by cases n <;> simp [shp] at hs
def okShow (d : PyData) : Bool := shp 8 d && d.showable && decide (wt d ≤ 16000000)
def rReprD (K : PySem.W.Frag) : List V → Hp → VK → Prop := fun xs H Q => ∃ x d, xs = [x] ∧ Dp K H x d ∧ okShow d = true ∧ Q (.str d.shown) H
theorem call_reprD {X : Cx} (hg : X.A.guards = some []) (hu : X.A.units + 64 < cLine) : CallR X (.builtin "repr") (rReprD X.K) := by
  intro pins s σ H xs us Q I r ⟨x, d, ex, hd, ok, q⟩
  subst ex
  obtain ⟨u, rfl, ru⟩ := vals1 r
  unfold okShow at ok
  rw [Bool.and_eq_true, Bool.and_eq_true, decide_eq_true_eq] at ok
  obtain ⟨⟨k1, k2⟩, k3⟩ := ok
  have k4 := Nat.le_trans (shown_le 8 d k1 k2) k3
  obtain ⟨_, k5⟩ := shp_plain 8 d k1
  obtain ⟨as, rd⟩ := Dp.reads I d x u hd ru
  have nd := shp_noDict 8 d k1
  cases rd with
  | none => exact PySem.P.repr_of_none ⟨.str _, H, I.tok _, ⟨_, rfl⟩, by simpa only [PyData.shown] using q⟩
  | bool b => exact PySem.P.repr_of_bool ⟨.str _, H, I.tok _, ⟨_, rfl⟩, by simpa only [PyData.shown] using q⟩
  | int i t => exact PySem.P.repr_of_int (by simpa only [PyData.showable, decide_eq_true_eq] using k2) ⟨.str _, H, I.tok _, ⟨_, rfl⟩, by simpa only [PyData.shown] using q⟩
  | str x t => exact PySem.P.repr_of_str ⟨.str _, H, I.tok _, ⟨_, rfl⟩, by simpa only [PyData.shown] using q⟩ (by
      simp only [PyData.shown] at k4
      exact Nat.le_trans k4 (by rw [sizeLine_eq]; decide))
  | list h1 h2 h3 h4 => exact repr_of_reads' (.list h1 h2 h3 h4) k2 (fun z => by rw [nd] at z; cases z) hg (by omega) (fun b o e => e) (fun h' u tk hk => ⟨.str _, H, I.kept hk, ⟨_, rfl⟩, q⟩) (Nat.le_trans k4 (by rw [sizeLine_eq]; decide))
  | tuple h1 h2 h3 h4 => exact repr_of_reads' (.tuple h1 h2 h3 h4) k2 (fun z => by rw [nd] at z; cases z) hg (by omega) (fun b o e => e) (fun h' u tk hk => ⟨.str _, H, I.kept hk, ⟨_, rfl⟩, q⟩) (Nat.le_trans k4 (by rw [sizeLine_eq]; decide))
  | dict => simp [PyData.hasDict] at nd
def dRepr : List PyData → Option PyData
  | [d] => if okShow d = true then some (.str d.shown) else none
  | _ => none
theorem fn_repr {β : Bool} {K : PySem.W.Frag} {r : Strg} : Fn β r (rReprD K) dRepr := by
  intro F H Ω σ S w vs ds d Q R hv hg q
  match ds, hg with
  | [e], hg =>
    obtain ⟨ok, rfl⟩ := ite_some hg
    obtain ⟨v, rfl, hx⟩ := hv.one
    have k1 : shp 8 e = true := by
      unfold okShow at ok
      rw [Bool.and_eq_true, Bool.and_eq_true] at ok
      exact ok.1.1
    exact ⟨v, e, rfl, hx.dp k1, ok, q _ H (Ext.refl H) (.str _)⟩
  | [], hg => cases hg
  | _ :: _ :: _, hg => cases hg
end Mini

set_option Elab.async false
set_option linter.all false
set_option maxRecDepth 100000
set_option maxHeartbeats 4000000
set_option exponentiation.threshold 10000
/-! Mini L: the draws' start; the law's own def. -/
namespace Mini
open PySem PySem.Spec PyProof.Rows L2

/-! ### _law_start -/
/-- good for n more draws -/
structure Drw.In (w : Drw) (n : Nat) : Prop where
  ok : w.Ok
  few : w.cnt ≤ (n : Int)
def spStart (K : PySem.W.Frag) : SpG := fun vs H Q => ∃ (a : Addr) (ns : List Int), vs = [.ref a] ∧ SqL K H a (ns.map V.int) ∧ (∀ z ∈ ns, Builtin.Int.intBits z ≤ 1048576) ∧
  ∀ (s c : Addr) (H' : Hp) (w : Drw), Ext H H' → H s = none → H c = none → c ≠ s → H' s = some (.lst (stV c w)) → H' c = some (.lst (w.cells.map V.int)) → w.In 0 → Q (.ref s) H'
abbrev tScr (K : PySem.W.Frag) : TI := iList K (tSl (rSlL K) (tVar 0) tNoPart (tPart (tC (.int 63))))
def mSeed : ME := m2 dAdd (m2 dMod (mF dInt (mCons (m2 dAdd (m2 dMul (mVar 1) (mC (.int 48271))) (mVar 2)) mNil)) (mC (.int 2147483629))) (mC (.int 1))
def mCell : ME := mF dAbs (mCons (mF dInt (mCons (mVar 2) mNil)) mNil)
def mRest : MA := mCons (mC (.int 0)) (mCons (mC (.int 0)) (mCons (mC (.int 0)) (mCons (mVar 1) (mCons (mC (.int 0)) mNil))))
def tStart (K : PySem.W.Frag) : TS := tSeq (tSv false (sAsg (mC (.int 7)) (pName 1))) (tSeq (tFor (tScr K) (tPat false false [2] (pName 2)) (tSv false (sAsg mSeed (pName 1))))
  (tRet (tLst (tCons (tLc (tScr K) (tPat false false [2] (pName 2)) (tTs false mYes) (tEv false .esc mCell) [2]) (tAs false .esc mRest)))))
theorem cutV63 (xs : List V) : cutV xs none (some 63) = xs.take 63 := by
  unfold cutV
  rw [HT.sIx_none, show HT.sIx xs.length xs.length (some 63) = min 63 xs.length from HT.sIx_nat xs.length xs.length 63, Nat.sub_zero, List.drop_zero]
  by_cases h : 63 ≤ xs.length
  · rw [Nat.min_eq_left h]
  · rw [Nat.min_eq_right (by omega), List.take_of_length_le (Nat.le_refl _), List.take_of_length_le (by omega)]
theorem seed_step {s c : Int} {w : Drw} (h0 : 0 ≤ s) (h1 : s < 2147483647) (x : Sl) : ∃ s', 0 ≤ s' ∧ s' < 2147483647 ∧ mSeed [x, .val (.int s), .val (.int c)] w = some (.int s', w) := by
  refine ⟨(s * 48271 + c) % 2147483629 + 1, ?_, ?_, ?_⟩
  · have := Int.emod_nonneg (s * 48271 + c) (b := 2147483629) (by decide)
    omega
  · have := Int.emod_lt_of_pos (s * 48271 + c) (b := 2147483629) (by decide)
    omega
  · have hm : mulOk s 48271 := .inr (.inl (by decide))
    have hp : (0 : Int) < 2147483629 := by decide
    simp only [mSeed, m2, mF, mCons, mNil, mVar, mC, List.getElem?_cons_succ, List.getElem?_cons_zero, Option.bind_some, Option.map_some, dMul, if_pos hm, dAdd, dInt, dMod, if_pos hp]
theorem seed_loop (r : Sl) (w : Drw) : ∀ (ns : List Int) (s : Int) (x : Sl), 0 ≤ s → s < 2147483647 → ∃ s' y, 0 ≤ s' ∧ s' < 2147483647 ∧ forGo (pName 2) (sAsg mSeed (pName 1)) (ns.map .int) [r, .val (.int s), x] w = some (.nx, [r, .val (.int s'), y], w)
  | [], s, x, h0, h1 => ⟨s, x, h0, h1, rfl⟩
  | n :: ns, s, x, h0, h1 => by
    obtain ⟨s1, a0, a1, e⟩ := seed_step (c := n) (w := w) h0 h1 r
    obtain ⟨s2, y, b0, b1, e2⟩ := seed_loop r w ns s1 (.val (.int n)) a0 a1
    refine ⟨s2, y, b0, b1, ?_⟩
    rw [List.map_cons]
    show ((sAsg mSeed (pName 1)) [r, .val (.int s), .val (.int n)] w).bind _ = _
    unfold sAsg
    rw [e]
    exact e2
def absI (i : Int) : Int := if i < 0 then -i else i
theorem cell_loop (w : Drw) (a b c : Sl) : ∀ ns : List Int, lcGo (pName 2) mYes mCell [a, b, c] (ns.map .int) w = some ((ns.map absI).map .int, w)
  | [] => rfl
  | n :: ns => by
    rw [List.map_cons, lcGo_cons, show pName 2 (.int n) [a, b, c] = some [a, b, .val (.int n)] from rfl, Option.bind_some, show mYes [a, b, .val (.int n)] w = some (true, w) from rfl, Option.bind_some, if_pos rfl,
      show mCell [a, b, .val (.int n)] w = some (.int (absI n), w) from rfl, Option.bind_some, cell_loop w a b c ns]
    rfl
/-- script[:63], walked -/
theorem scr_imp {β : Bool} {r : Strg} {K : PySem.W.Frag} {F : Fx β} {Ω : AS} {σ : L2.St} {S : SEnv} {w : Drw} {H : Hp} {a : Addr} {ns : List Int} {R : It → Hp → Prop} (Rl : Rel F H Ω σ S w) (h0 : σ[0]? = some (some (.ref a))) (hS : SqL K H a (ns.map V.int))
    (q : ∀ J H1, Ext H H1 → Walk false r F Ω J H1 ((ns.take 63).map .int) → R J H1) : tScr K σ H R := by
  refine ⟨.ref a, h0, 63, rfl, a, _, rfl, hS, fun p hp => ?_⟩
  rw [cutV63, ← List.map_take]
  obtain ⟨e1, dv⟩ := new_lst Rl (DvA.ofInts (ns.take 63)) (by rw [List.length_map, List.length_take]; exact Nat.le_trans (Nat.min_le_left _ _) (by decide)) hp
  obtain ⟨a', xs, e, k1, k2⟩ := walk_lst (K := K) (r := r) (Rl.ex e1) (Dx.of dv)
  cases e
  exact ⟨p, rfl, ⟨_, k1⟩, q _ _ e1 k2⟩
theorem abs_bits {z : Int} (h : Builtin.Int.intBits z ≤ 1048576) : 0 ≤ absI z ∧ (absI z).natAbs < 2 ^ 1048580 := by
  have e : (absI z).natAbs = z.natAbs := by unfold absI; split <;> omega
  refine ⟨by unfold absI; split <;> omega, ?_⟩
  rw [e]
  by_cases h0 : z.natAbs = 0
  · rw [h0]; exact Nat.two_pow_pos _
  · have hz : z ≠ 0 := fun x => h0 (by rw [x]; rfl)
    refine (Nat.log2_lt h0).mp ?_
    unfold Builtin.Int.intBits at h
    rw [if_neg (by simpa using hz)] at h
    omega
theorem start_law {K : PySem.W.Frag} {vs : List V} {H : Hp} {Q : VK} (h : spStart K vs H Q) : tStart K { nx := fun _ H' => Q .non H', rt := Q } (L2.start ["script", "seed", "cell"] vs) H := by
  obtain ⟨a, ns, rfl, hS, hb, q⟩ := h
  let F : Fx false := ⟨none, 0, H, fun _ => False⟩
  have R0 : Rel F H (fun _ => False) (L2.start ["script", "seed", "cell"] [V.ref a]) [.raw (.ref a), .no, .no] w0 := by
    refine ⟨fun a o k _ => k, fun a k => k, fun a k => k.elim, fun a k => k.elim, rfl, fun i sl k => ?_, fun i j d e b k1 k2 s1 s2 => ?_, trivial⟩
    · match i, k with
      | 0, k => cases k; rfl
      | 1, k => cases k; trivial
      | 2, k => cases k; trivial
    · match i, k1 with
      | 0, k => cases k
      | 1, k => cases k
      | 2, k => cases k
  have keep : ∀ {H' Ω'}, Grow (fun _ => False) H Ω' H' → Same H H' := fun g b o e => g.evo b o e fun z => z
  refine ⟨F, _, _, w0, .nx, [.raw (.ref a), .val (.int 7), .no], w0, R0, rfl, fun σ1 H1 Ω1 R1 g1 => ?_⟩
  obtain ⟨s', y, b0, b1, e⟩ := seed_loop (.raw (.ref a)) w0 (ns.take 63) 7 .no (by decide) (by decide)
  refine (show tFor (tScr K) (tPat false false [2] (pName 2)) (tSv false (sAsg mSeed (pName 1))) _ σ1 H1 from ?_)
  unfold tFor
  refine scr_imp (r := .esc) R1 (R1.slot 0 _ rfl) ((keep g1).seq hS) fun J H2 e2 wk => ?_
  refine for_walk (R1.ex e2) wk e fun σ3 H3 Ω3 R3 g3 => ?_
  have g13 := (g1.trans (Ext.grow e2)).trans g3
  have h3 := keep g13
  unfold tRet tLst tCons tLc
  dsimp only
  refine scr_imp (r := .top) R3 (R3.slot 0 _ rfl) (h3.seq hS) fun J4 H4 e4 wk4 => ?_
  refine lc_walk (vs := [2]) (Q := fun v H => tAs false .esc mRest σ3 H fun xs H2 => (v :: xs).length ≤ sizeLine ∧ ∀ p, H2 p = none → Q (.ref p) (upd H2 p (.lst (v :: xs)))) (R3.ex e4) wk4 (cell_loop w0 _ _ _ (ns.take 63)) (by rw [List.length_map, List.length_map, List.length_take]; exact Nat.le_trans (Nat.min_le_left _ _) (by decide)) fun D H5 hD R5 e5 ow => ?_
  obtain ⟨cv, c1, c2, c3⟩ := ow
  refine ⟨F, Ω3, _, w0, w0, [.int 0, .int 0, .int 0, .int s', .int 0], R5, rfl, fun us H6 R6 e6 hu => ?_⟩
  have c4 := c3.ints
  subst c4
  obtain ⟨rfl⟩ : us = [V.int 0, .int 0, .int 0, .int s', .int 0] := by
    have := hu.dv
    exact DvA.ints (ns := [0, 0, 0, s', 0]) this
  refine ⟨by show 6 ≤ sizeLine; decide, fun p hp => ?_⟩
  have x6 : Same H5 H6 := fun b o k => e6 b o k fun z => nomatch z
  have x5 : Same H4 H5 := fun b o k => e5 b o k fun z => nomatch z
  have d6 : H6 D = some (.lst (((ns.take 63).map absI).map V.int)) := x6 _ _ c1
  have np : D ≠ p := ne_of_none d6 hp
  have all : Same H H6 := ((h3.trans e4).trans x5).trans x6
  refine q p D (upd H6 p (.lst (stV D ⟨(ns.take 63).map absI, 0, 0, 0, s', 0⟩))) ⟨(ns.take 63).map absI, 0, 0, 0, s', 0⟩ (Ext.trans all (Ext.new hp)) (all.free hp) ((h3.trans e4).free hD) np upd_same (by rw [upd_ne np]; exact d6) ⟨⟨?_, ?_, (by decide : (0 : Int) ≤ 0), (by decide : (0 : Int) ≤ 63), (by decide : (0 : Int) ≤ 0), Nat.two_pow_pos _, (by decide : (0 : Int) ≤ 0), (by decide : (0 : Int) ≤ 60), b0, b1, (by decide : (0 : Int) ≤ 0), (by decide : (0 : Int) < 2 ^ 62)⟩, (by decide : (0 : Int) ≤ ((0 : Nat) : Int))⟩
  · show ((ns.take 63).map absI).length ≤ 63
    rw [List.length_map, List.length_take]
    omega
  · intro c hc
    obtain ⟨z, hz, rfl⟩ := List.mem_map.mp hc
    exact abs_bits (hb z (List.mem_of_mem_take hz))

/-! ### the law's def: the draws' start, then the rest -/
def spLaw (K : PySem.W.Frag) : SpG := fun vs H Q => ∃ (a : Addr) (ns : List Int), vs = [.ref a] ∧ SqL K H a (ns.map V.int) ∧ (∀ z ∈ ns, Builtin.Int.intBits z ≤ 1048576) ∧ ∀ H', Q (.bl true) H'
def tLaw (β : Bool) (K : PySem.W.Frag) (m : MS) : TS := tSeq (tAsg (tCallG (spStart K) [] (tCons (tVar 0) tNil)) (gName 1)) (tSv β m)
/-- what the rest of the law has to answer -/
def Good (k : Nat) (m : MS) : Prop := ∀ w : Drw, w.In 0 → ∃ S' w', m (.no :: .stt :: List.replicate k .no) w = some (.rt (.bool true), S', w')
theorem law_law {β : Bool} {K : PySem.W.Frag} {m : MS} {N : List Str} {k : Nat} (hN : N.length = k + 2) (hm : Good k m) {vs : List V} {H : Hp} {Q : VK} (h : spLaw K vs H Q) : tLaw β K m { nx := fun _ H' => Q .non H', rt := Q } (L2.start N vs) H := by
  obtain ⟨a, ns, rfl, hS, hb, q⟩ := h
  have st : L2.start N [V.ref a] = some (.ref a) :: none :: List.replicate k none := by
    unfold L2.start
    rw [hN, List.length_singleton, show k + 2 - 1 = k + 1 from rfl, List.replicate_succ]
    rfl
  rw [st]
  refine ⟨.ref a, rfl, a, ns, rfl, hS, hb, fun s c H' w ex hs hc hcs h1 h2 hw => ?_⟩
  obtain ⟨S', w', e⟩ := hm w hw
  refine ⟨⟨some s, c, H', fun b => b = s ∨ b = c⟩, fun b => b = s ∨ b = c, _, w, _, S', w', ⟨fun b o z _ => z, fun b z => z, ?_, ?_, ?_, fun i sl z => ?_, fun i j d e b k1 k2 s1 s2 => ?_, ?_⟩, e, fun v H2 _ _ dv => ?_⟩
  · rintro b (rfl | rfl)
    · rw [h1]; exact fun z => nomatch z
    · rw [h2]; exact fun z => nomatch z
  · rintro b (rfl | rfl)
    · show H' b ≠ none
      rw [h1]; exact fun z => nomatch z
    · show H' b ≠ none
      rw [h2]; exact fun z => nomatch z
  · simp
  · match i, z with
    | 0, z => cases z; trivial
    | 1, z => cases z; exact ⟨s, rfl, rfl⟩
    | i + 2, z =>
      rw [List.getElem?_cons_succ, List.getElem?_cons_succ, List.getElem?_replicate] at z
      split at z
      · cases z; trivial
      · cases z
  · match i, k1 with
    | 0, z => cases z
    | 1, z => cases z
    | i + 2, z =>
      rw [List.getElem?_cons_succ, List.getElem?_cons_succ, List.getElem?_replicate] at z
      split at z <;> cases z
  · exact ⟨.inl rfl, .inr rfl, hcs, h1, h2, hw.ok⟩
  · rw [Dv.bl_inv dv]
    exact q H2
theorem spLaw_ok {K : PySem.W.Frag} {H : Hp} {a : Addr} {ns : List Int} (hb : ∀ z ∈ ns, Builtin.Int.intBits z ≤ 1048576) (hS : SqL K H a (ns.map V.int)) : spLaw K [.ref a] H fun v _ => v = .bl true := ⟨a, ns, rfl, hS, hb, fun _ => rfl⟩
end Mini

set_option Elab.async false
set_option linter.all false
set_option maxRecDepth 100000
set_option maxHeartbeats 4000000
/-! Mini M: more expressions: new lists, dicts by comprehension, sorted sets. -/
namespace Mini
open PySem PySem.Spec PyProof.Rows L2

/-! ### the built-in names -/
theorem bt_len : bootBuiltins "len" = some (.builtin "len") := by decide +kernel
theorem bt_abs : bootBuiltins "abs" = some (.builtin "abs") := by decide +kernel
theorem bt_sum : bootBuiltins "sum" = some (.builtin "sum") := by decide +kernel
theorem bt_max : bootBuiltins "max" = some (.builtin "max") := by decide +kernel
theorem bt_min : bootBuiltins "min" = some (.builtin "min") := by decide +kernel
theorem bt_all : bootBuiltins "all" = some (.builtin "all") := by decide +kernel
theorem bt_any : bootBuiltins "any" = some (.builtin "any") := by decide +kernel
theorem bt_repr : bootBuiltins "repr" = some (.builtin "repr") := by decide +kernel
theorem bt_sorted : bootBuiltins "sorted" = some (.builtin "sorted") := by decide +kernel
theorem bt_isinstance : bootBuiltins "isinstance" = some (.builtin "isinstance") := by decide +kernel
theorem bt_int : bootBuiltins "int" = some (.type "int") := by decide +kernel
theorem bt_bool : bootBuiltins "bool" = some (.type "bool") := by decide +kernel
theorem bt_str : bootBuiltins "str" = some (.type "str") := by decide +kernel
theorem bt_list : bootBuiltins "list" = some (.type "list") := by decide +kernel
theorem bt_tuple : bootBuiltins "tuple" = some (.type "tuple") := by decide +kernel
theorem bt_set : bootBuiltins "set" = some (.type "set") := by decide +kernel
theorem bt_dict : bootBuiltins "dict" = some (.type "dict") := by decide +kernel

def dLenX : List PyData → Option PyData := fun ds => match ds with
  | [.dict _] => none
  | _ => dLen ds
section
variable {β : Bool} {X : Cx} {a b c e : Expr} {es : List Expr} {pos p1 p2 p3 : Pos} {r ra rb : Strg} {ma mb m : ME} {mr : MA} {mt : MT}
/-! ### not x, as a value -/
/-- not x, x looked at for its truth -/
theorem de_notX (h : DE β r X a m) : DE β .esc X (.UnaryOp .Not a pos) (mV (mNot (mTru m))) := pe_imp (pe_notT h) fun σ H Q ⟨F, Ω, S, w, w', d, R, hm, q⟩ => by
  unfold mV mNot mTru at hm
  obtain ⟨⟨k, w1⟩, h1, hm⟩ := Option.map_eq_some_iff.mp hm
  obtain ⟨⟨k0, w0⟩, h2, h3⟩ := Option.map_eq_some_iff.mp h1
  obtain ⟨⟨d0, w2⟩, h4, h5⟩ := Option.bind_eq_some_iff.mp h2
  obtain ⟨k2, h6, h7⟩ := Option.map_eq_some_iff.mp h5
  cases hm
  cases h3
  cases h7
  exact ⟨F, Ω, S, w, _, d0, R, h4, fun v H1 R1 e1 hv => ⟨_, dx_tru hv h6, q _ H1 R1 e1 (.bl _)⟩⟩

/-! ### new lists of the def's own -/
theorem new_own {F : Fx β} {H : Hp} {Ω : AS} {σ : L2.St} {S : SEnv} {w : Drw} {vs : List V} {ds : List PyData} {p : Addr} (R : Rel F H Ω σ S w) (h : DvA β Ω H vs ds) (hl : ds.length ≤ LB) (hp : H p = none) : Ext H (upd H p (.lst vs)) ∧ OwnAt β (Also Ω p) (upd H p (.lst vs)) p (.list ds) :=
  ⟨.new hp, vs, upd_same, by rw [h.length]; exact hl, h.grow ⟨fun a q => q.elim .inl fun z => .inr (by rw [z]; exact hp), (Ext.new hp).evo Ω⟩⟩
theorem none_back {F : Fx β} {H H1 : Hp} {Ω : AS} {σ : L2.St} {S : SEnv} {w : Drw} {p : Addr} (R1 : Rel F H1 Ω σ S w) (e : Evs F.st H H1) (h : H1 p = none) : H p = none := by
  cases q : H p with
  | none => rfl
  | some o =>
    by_cases hz : F.st = some p
    · exact absurd h (R1.dom p (R1.stΨ hz).2)
    · rw [e p o q hz] at h; cases h
theorem df_lst (h : DA β .esc X es mr) : DF β X (.List es pos) (mLst mr) := pe_imp (pe_lst h) fun σ H Q ⟨F, Ω, S, w, w', d, R, hm, q⟩ => by
  unfold mLst at hm
  obtain ⟨⟨ds, w1⟩, h1, hm⟩ := Option.bind_eq_some_iff.mp hm
  obtain ⟨hl, hm⟩ := ite_some hm
  cases hm
  refine ⟨F, Ω, S, w, _, ds, R, h1, fun vs H1 R1 e1 hvs => ⟨LB_line (by rw [hvs.dv.length]; exact hl), fun p hp => ?_⟩⟩
  obtain ⟨e2, ow⟩ := new_own R1 hvs.dv hl hp
  exact q p _ (R1.ex e2) (e1.trans e2.evs) (none_back R1 e1 hp) ow
/-- a builtin that makes a new list -/
def FnL (β : Bool) (r : Strg) (rl : List V → Hp → VK → Prop) (g : List PyData → Option PyData) : Prop := ∀ (F : Fx β) (H : Hp) (Ω : AS) (σ : L2.St) (S : SEnv) (w : Drw) (vs : List V) (ds : List PyData) (d : PyData) (Q : VK), Rel F H Ω σ S w → DxA r F Ω H vs ds → g ds = some d →
  (∀ p H', H p = none → Ext H H' → OwnAt β (Also Ω p) H' p d → Q (.ref p) H') → rl vs H Q
theorem fnl_imp {rl : List V → Hp → VK → Prop} {g : List PyData → Option PyData} (hg : FnL β r rl g) {σ : L2.St} {H : Hp} {Q : VK} (h : tFr β (mF g mr) σ H Q) : tCB rl (tAs β r mr) σ H Q := by
  obtain ⟨F, Ω, S, w, w', d, R, hm, q⟩ := h
  unfold mF at hm
  obtain ⟨⟨ds, w1⟩, h1, hm⟩ := Option.bind_eq_some_iff.mp hm
  obtain ⟨d', h2, hm⟩ := Option.map_eq_some_iff.mp hm
  cases hm
  exact ⟨F, Ω, S, w, _, ds, R, h1, fun vs H1 R1 e1 hvs => hg F H1 Ω σ S _ vs ds _ Q R1 hvs h2 fun p H2 hp e2 ow => q p H2 (R1.ex e2) (e1.trans e2.evs) (none_back R1 e1 hp) ow⟩
theorem df_list {x : Str} (hx : x = "list" := by rfl) (hg : Gl X "list") (hm : X.mg "list" = none) (ha : DA β r X [e] mr) (he : starEach [e] X.env = (false, eval e X.env) :: starEach [] X.env := by rfl) : DF β X (.Call (.Name "list" p1) [e] [] pos) (mF dList mr) :=
  pe_imp (pe_callTy call_list_of hg hm bt_list ha (by decide) (by decide) he (by rfl)) fun _ _ _ h => fnl_imp (g := dList) (fun F H Ω σ S w vs ds d Q R hv hg q => by
    match ds, hg with
    | [e], hg =>
      obtain ⟨xs, h1, rfl⟩ := Option.map_eq_some_iff.mp hg
      obtain ⟨v, rfl, hx⟩ := hv.one
      obtain ⟨a, us, ev, h2, h3, h4⟩ := hx.seq_inv (K := X.K) (seqOf_inv h1)
      refine ⟨a, us, by rw [ev], h2, fun p hp => ?_⟩
      obtain ⟨e1, ow⟩ := new_own R h4 (by rw [← h4.length]; exact h3) hp
      exact q p _ hp e1 ow) h
theorem df_sortI (hg : Gl X "sorted") (hm : X.mg "sorted" = none) (ha : DA β r X [e] mr) (he : starEach [e] X.env = (false, eval e X.env) :: starEach [] X.env := by rfl) : DF β X (.Call (.Name "sorted" p1) [e] [] pos) (mF dSortI mr) :=
  pe_imp (pe_callB cr_sortedI hg hm bt_sorted ha (by decide) (by decide) he (by rfl)) fun _ _ _ h => fnl_imp (g := dSortI) (fun F H Ω σ S w vs ds d Q R hv hg q => by
    match ds, hg with
    | [.list xs], hg =>
      obtain ⟨ns, h1, rfl⟩ := Option.map_eq_some_iff.mp (show (intsOf xs).map (fun ns => PyData.list ((srtI ns).map .int)) = some d from hg)
      obtain ⟨v, rfl, hx⟩ := hv.one
      obtain ⟨a, us, ev, h4, h5, h6⟩ := hx.lst_inv
      rw [intsOf_inv h1] at h6
      have e2 := h6.ints
      subst e2
      refine ⟨a, ns, by rw [ev], .of h4, fun ns' p hp hs hn => ?_⟩
      have e3 : ns' = srtI ns := srt_one (hp.trans (srtI_perm ns).symm) hs (srtI_le ns)
      subst e3
      obtain ⟨e1, ow⟩ := new_own R (DvA.ofInts (srtI ns)) (by rw [List.length_map, (srtI_perm ns).length_eq]; rw [List.length_map] at h5; exact h5) hn
      exact q p _ hn e1 ow) h
def dCatL : PyData → PyData → Option PyData
  | .list xs, .list ys => if xs.length + ys.length ≤ LB then some (.list (xs ++ ys)) else none
  | _, _ => none
def dRepL : PyData → PyData → Option PyData
  | .list xs, .int k => if 0 ≤ k ∧ k.natAbs ≤ 1000000 ∧ xs.length * k.toNat ≤ LB then some (.list (List.replicate k.toNat xs).flatten) else none
  | _, _ => none
def Op2L (β : Bool) (ra rb : Strg) (rl : R2) (g : PyData → PyData → Option PyData) : Prop := ∀ (F : Fx β) (H : Hp) (Ω : AS) (σ : L2.St) (S : SEnv) (w : Drw) (x y : V) (dx dy d : PyData) (Q : VK), Rel F H Ω σ S w → Dx ra F Ω H x dx → Dx rb F Ω H y dy → g dx dy = some d →
  (∀ p H', H p = none → Ext H H' → OwnAt β (Also Ω p) H' p d → Q (.ref p) H') → rl x y H Q
theorem op2l_imp {rl : R2} {g : PyData → PyData → Option PyData} (hg : Op2L β ra rb rl g) {σ : L2.St} {H : Hp} {Q : VK} (h : tFr β (m2 g ma mb) σ H Q) : tOp rl (tEv β ra ma) (tEv β rb mb) σ H Q := by
  obtain ⟨F, Ω, S, w, w', d, R, hm, q⟩ := h
  unfold m2 at hm
  obtain ⟨⟨dx, w1⟩, h1, hm⟩ := Option.bind_eq_some_iff.mp hm
  obtain ⟨⟨dy, w2⟩, h2, hm⟩ := Option.bind_eq_some_iff.mp hm
  obtain ⟨d', h3, hm⟩ := Option.map_eq_some_iff.mp hm
  cases hm
  refine ⟨F, Ω, S, w, w1, dx, R, h1, fun x H1 R1 e1 hx => ⟨F, Ω, S, w1, _, dy, R1, h2, fun y H2 R2 e2 hy => ?_⟩⟩
  exact hg F H2 Ω σ S _ x y dx dy _ Q R2 (hx.mono R1 e2) hy h3 fun p H3 hp e3 ow => q p H3 (R2.ex e3) ((e1.trans e2).trans e3.evs) (none_back R2 (e1.trans e2) hp) ow
theorem df_cat (ha : DE β ra X a ma) (hb : DE β rb X b mb) : DF β X (.BinOp a .Add b pos) (m2 dCatL ma mb) := pe_imp (pe_op op_cat ha hb) fun _ _ _ h => op2l_imp (g := dCatL) (fun F H Ω σ S w x y dx dy d Q R hx hy hg q => by
  cases dx with
  | list xs =>
    cases dy with
    | list ys =>
      obtain ⟨hl, rfl⟩ := ite_some hg
      obtain ⟨a, vs, ex, h2, l1, r1⟩ := hx.lst_inv
      obtain ⟨b, us, ey, k2, l2, r2⟩ := hy.lst_inv
      refine ⟨a, b, vs, us, ex, ey, h2, k2, LB_line (by rw [r1.length, r2.length]; exact hl), fun p hp => ?_⟩
      obtain ⟨e1, ow⟩ := new_own R (r1.append r2) (by rw [List.length_append]; exact hl) hp
      exact q p _ hp e1 ow
    | _ => cases hg
  | _ => cases hg) h
theorem df_rep (ha : DE β ra X a ma) (hb : DE β rb X b mb) : DF β X (.BinOp a .Mult b pos) (m2 dRepL ma mb) := pe_imp (pe_op op_rep ha hb) fun _ _ _ h => op2l_imp (g := dRepL) (fun F H Ω σ S w x y dx dy d Q R hx hy hg q => by
  cases dx with
  | list xs =>
    cases dy with
    | int k =>
      obtain ⟨⟨h0, h1, hl⟩, rfl⟩ := ite_some hg
      obtain ⟨a, vs, ex, h2, l1, r1⟩ := hx.lst_inv
      have hz : vs.length * k.toNat ≤ LB := by rw [r1.length]; exact hl
      refine ⟨a, k, vs, ex, hy.int_inv, h2, by omega, by omega, LB_line hz, fun p hp => ?_⟩
      obtain ⟨e1, ow⟩ := new_own R (rep_flat r1 k.toNat) (by rw [rep_len]; exact hl) hp
      exact q p _ hp e1 ow
    | _ => cases hg
  | _ => cases hg) h
def dAddI : PyData → PyData → Option PyData
  | .int i, .int j => some (.int (i + j))
  | _, _ => none
/-- the start of the draws, as a call -/
theorem pe_start {k : Nat} {sp : SpG} {x : Str} {t : TA} (D : DefP X.prog X.w X.K X.mg X.base k x sp []) (hr : RoomG k X.A) (hg : Gl X x) (ha : PA X [e] t) (hdb : (x == ("__debug__" : Str)) = false := by decide) (he : starEach [e] X.env = (false, eval e X.env) :: starEach [] X.env := by rfl) : PE X (.Call (.Name x p1) [e] [] pos) (tCallG sp [] t) := by
  obtain ⟨f, fd, ps, ds, F, hm, hk, hb, hv⟩ := D.ex
  exact pe_callG F hr hg hm hk hb hv ha hdb he (by rfl)
/-! ### sorted(set(ints)) -/
def uniqS : List Int → List Int
  | x :: y :: r => if x = y then uniqS (y :: r) else x :: uniqS (y :: r)
  | l => l
def srtU (ns : List Int) : List Int := uniqS (srtI ns)
theorem uniqS_mem : ∀ (l : List Int) (k : Int), k ∈ uniqS l ↔ k ∈ l
  | [], k => by simp [uniqS]
  | [x], k => by simp [uniqS]
  | x :: y :: r, k => by
    unfold uniqS
    split
    · rename_i e
      rw [uniqS_mem (y :: r) k, e]
      simp
    · rw [List.mem_cons, uniqS_mem (y :: r) k]
      simp only [List.mem_cons]
theorem uniqS_lt : ∀ l : List Int, l.Pairwise (· ≤ ·) → (uniqS l).Pairwise (· < ·)
  | [], _ => .nil
  | [x], _ => by simp [uniqS]
  | x :: y :: r, h => by
    have h2 := (List.pairwise_cons.mp h).2
    unfold uniqS
    split
    · exact uniqS_lt (y :: r) h2
    · rename_i ne
      refine List.pairwise_cons.mpr ⟨fun z hz => ?_, uniqS_lt (y :: r) h2⟩
      have hz' := (uniqS_mem (y :: r) z).mp hz
      have a := (List.pairwise_cons.mp h).1 y List.mem_cons_self
      rcases List.mem_cons.mp hz' with e | hz'
      · omega
      · have b := (List.pairwise_cons.mp h2).1 z hz'
        omega
theorem uniqS_len : ∀ l : List Int, (uniqS l).length ≤ l.length
  | [] => Nat.le_refl _
  | [_] => Nat.le_refl _
  | x :: y :: r => by
    have := uniqS_len (y :: r)
    unfold uniqS
    split
    · simp only [List.length_cons] at *; omega
    · simp only [List.length_cons] at *; omega
theorem lt_one : ∀ {xs ys : List Int}, xs.Pairwise (· < ·) → ys.Pairwise (· < ·) → (∀ k, k ∈ xs ↔ k ∈ ys) → xs = ys
  | [], [], _, _, _ => rfl
  | [], y :: ys, _, _, h => absurd ((h y).mpr List.mem_cons_self) (by simp)
  | x :: xs, [], _, _, h => absurd ((h x).mp List.mem_cons_self) (by simp)
  | x :: xs, y :: ys, hx, hy, h => by
    have px := List.pairwise_cons.mp hx
    have py := List.pairwise_cons.mp hy
    have e : x = y := by
      rcases List.mem_cons.mp ((h x).mp List.mem_cons_self) with e | a
      · exact e
      · rcases List.mem_cons.mp ((h y).mpr List.mem_cons_self) with e | b
        · exact e.symm
        · have := py.1 x a
          have := px.1 y b
          omega
    subst e
    rw [lt_one px.2 py.2 fun k => ⟨fun hk => ?_, fun hk => ?_⟩]
    · rcases List.mem_cons.mp ((h k).mp (List.mem_cons_of_mem _ hk)) with e | a
      · have := px.1 k hk; omega
      · exact a
    · rcases List.mem_cons.mp ((h k).mpr (List.mem_cons_of_mem _ hk)) with e | a
      · have := py.1 k hk; omega
      · exact a
theorem srtU_mem (ns : List Int) (k : Int) : k ∈ srtU ns ↔ k ∈ ns := by
  unfold srtU
  rw [uniqS_mem, (srtI_perm ns).mem_iff]
theorem srtU_lt (ns : List Int) : (srtU ns).Pairwise (· < ·) := uniqS_lt _ (srtI_le ns)
theorem srtU_len (ns : List Int) : (srtU ns).length ≤ ns.length := by
  have := uniqS_len (srtI ns)
  rw [(srtI_perm ns).length_eq] at this
  exact this
def rSetI' (K : PySem.W.Frag) (w : World) : List V → Hp → VK → Prop := fun xs H Q => ∃ (a : Addr) (ns : List Int), xs = [.ref a] ∧ SqT K H a (ns.map V.int) ∧ ns.length < 64 ∧ ∀ (p : Addr) (n : Nat), H p = none → n ≤ ns.length → Q (.ref p) (upd H p (SetO w p (fun j => decide (j ∈ ns)) n))
theorem call_setI' (hc : X.calm = true) : CallR X (.type "set") (rSetI' X.K X.w) := by
  intro pins s σ H xs us Q I r ⟨a, ns, ex, hq, hl, q⟩
  subst ex
  obtain ⟨u, rfl, rx⟩ := vals1 r
  cases rx
  obtain ⟨its, rv, pt, hz⟩ := I.tuple hq
  refine call_set_tupI ns (I.ok.hd hc) (show s.heap.IsTuple a its.toArray from pt) (show IntsAre its.toArray.toList ns from ints_of_vals rv) (by unfold scanBound; omega) fun h' tk c R1 hcn k => ?_
  exact ⟨.ref _, _, I.laid (t' := tk) k (Nat.le_refl _) (setO_new R1), rfl, q _ c (I.hok.fresh (Nat.le_refl _)) hcn⟩
def mSortedSet (m : ME) : ME := fun S w => (m S w).bind fun p => match p.1 with
  | .tuple xs => (intsOf xs).bind fun ns => if ns.length < 64 then some (.list ((srtU ns).map .int), p.2) else none
  | _ => none
theorem de_sortedSet (hc : X.calm = true) (hg : Gl X "sorted") (hm : X.mg "sorted" = none) (hg2 : Gl X "set") (hm2 : X.mg "set" = none) (he : DE β r X e m) (hs : starEach [e] X.env = (false, eval e X.env) :: starEach [] X.env := by rfl) :
    DE β .esc X (.Call (.Name "sorted" p1) [.Call (.Name "set" p2) [e] [] p3] [] pos) (mSortedSet m) :=
  pe_imp (pe_callB (cr_sortedSet hc) hg hm bt_sorted (pa_cons (pe_callTy (call_setI' hc) hg2 hm2 bt_set (pa_cons he pa_nil hs) (by decide) (by decide) hs (by rfl)) pa_nil)) fun σ H Q ⟨F, Ω, S, w, w', d, R, hmm, q⟩ => by
  unfold mSortedSet at hmm
  obtain ⟨⟨d0, w1⟩, h1, hmm⟩ := Option.bind_eq_some_iff.mp hmm
  cases d0 with
  | tuple xs =>
    obtain ⟨ns, h2, hmm⟩ := Option.bind_eq_some_iff.mp hmm
    obtain ⟨hl, hmm⟩ := ite_some hmm
    cases hmm
    refine ⟨F, Ω, S, w, _, .tuple xs, R, h1, fun v H1 R1 e1 hv => ?_⟩
    obtain ⟨a, vs, rfl, k1, k2, k3⟩ := hv.tup_inv
    rw [intsOf_inv h2] at k3
    have e2 := k3.ints
    subst e2
    refine ⟨a, ns, rfl, k1.seq, hl, fun p n hp hn => ?_⟩
    have x1 : Ext H1 (upd H1 p (SetO X.w p (fun j => decide (j ∈ ns)) n)) := .new hp
    refine ⟨p, _, n, rfl, upd_same, by omega, fun ms t hms hmem hlen ht => ?_⟩
    have e3 : ms = srtU ns := lt_one hms (srtU_lt ns) fun k => by rw [hmem k, decide_eq_true_eq, srtU_mem]
    subst e3
    obtain ⟨x2, dv⟩ := new_lst (R1.ex x1) (DvA.ofInts (srtU ns)) (by rw [List.length_map, hlen]; exact Nat.le_trans hn (Nat.le_trans (Nat.le_of_lt hl) (by decide))) ht
    exact q _ _ ((R1.ex x1).ex x2) ((e1.trans x1.evs).trans x2.evs) dv
  | _ => cases hmm
end
end Mini

set_option Elab.async false
set_option linter.all false
set_option maxRecDepth 100000
set_option maxHeartbeats 4000000
/-! Mini N: dicts by comprehension, keys ints or texts. -/
namespace Mini
open PySem PySem.Spec PyProof.Rows L2

abbrev KDs := List (Key × PyData)
def keyOf : PyData → Option Key
  | .int i => some (.inl i)
  | .str x => some (.inr x)
  | _ => none
theorem keyOf_dv {β : Bool} {Ω : AS} {H : Hp} {d : PyData} {k : Key} {v : V} (h : keyOf d = some k) (hv : Dv β Ω H v d) : v = kV k := by
  cases d <;> first | (cases h; done) | skip
  · cases h; rw [hv.int_inv]; rfl
  · cases h; rw [hv.str_inv]; rfl
def putD (kds : KDs) (k : Key) (d : PyData) : KDs := if (kds.any fun p => decide (p.1 = k)) = true then kds.map (fun p => if p.1 = k then (p.1, d) else p) else kds ++ [(k, d)]
def dictD (kds : KDs) : PyData := .dict (kds.map fun p => (keyD p.1, p.2))
inductive KD (β : Bool) (Ω : AS) (H : Hp) : List (Key × V) → KDs → Prop
  | nil : KD β Ω H [] []
  | cons {k : Key} {v : V} {d : PyData} {kvs : List (Key × V)} {kds : KDs} : Dv β Ω H v d → KD β Ω H kvs kds → KD β Ω H ((k, v) :: kvs) ((k, d) :: kds)
section
variable {β : Bool} {Ω Ω' : AS} {H H' : Hp}
theorem KD.grow (g : Grow Ω H Ω' H') : ∀ {kvs kds}, KD β Ω H kvs kds → KD β Ω' H' kvs kds
  | _, _, .nil => .nil
  | _, _, .cons h r => .cons (h.grow g) (KD.grow g r)
theorem KD.length : ∀ {kvs kds}, KD β Ω H kvs kds → kvs.length = kds.length
  | _, _, .nil => rfl
  | _, _, .cons _ r => congrArg (· + 1) (KD.length r)
theorem KD.any (k : Key) : ∀ {kvs kds}, KD β Ω H kvs kds → (kvs.any fun p => decide (p.1 = k)) = (kds.any fun p => decide (p.1 = k))
  | _, _, .nil => rfl
  | _, _, .cons _ r => by rw [List.any_cons, List.any_cons, KD.any k r]
theorem KD.app {k : Key} {v : V} {d : PyData} (h : Dv β Ω H v d) : ∀ {kvs kds}, KD β Ω H kvs kds → KD β Ω H (kvs ++ [(k, v)]) (kds ++ [(k, d)])
  | _, _, .nil => .cons h .nil
  | _, _, .cons q r => .cons q (KD.app h r)
theorem KD.upd {k : Key} {v : V} {d : PyData} (h : Dv β Ω H v d) : ∀ {kvs kds}, KD β Ω H kvs kds → KD β Ω H (kvs.map fun p => if p.1 = k then (p.1, v) else p) (kds.map fun p => if p.1 = k then (p.1, d) else p)
  | _, _, .nil => .nil
  | _, _, .cons (k := k') q r => by
    rw [List.map_cons, List.map_cons]
    by_cases e : k' = k
    · rw [if_pos e, if_pos e]; exact .cons h (KD.upd h r)
    · rw [if_neg e, if_neg e]; exact .cons q (KD.upd h r)
theorem KD.put {k : Key} {v : V} {d : PyData} {kvs : List (Key × V)} {kds : KDs} (h : Dv β Ω H v d) (r : KD β Ω H kvs kds) : KD β Ω H (putK kvs k v) (putD kds k d) := by
  unfold putK putD
  rw [r.any k]
  split
  · exact r.upd h
  · exact r.app h
theorem KD.vals : ∀ {kvs kds}, KD β Ω H kvs kds → DvA β Ω H (kvs.map (·.2)) (kds.map (·.2)) ∧ kds.map (fun p => (keyD p.1, p.2)) = (kvs.map fun p => keyD p.1).zip (kds.map (·.2))
  | _, _, .nil => ⟨.nil, rfl⟩
  | _, _, .cons h r => by
    obtain ⟨a, b⟩ := r.vals
    refine ⟨.cons h a, ?_⟩
    rw [List.map_cons, List.map_cons, List.map_cons, List.zip_cons_cons, b]
theorem KD.own {a : Addr} {kvs : List (Key × V)} {kds : KDs} (h : H a = some (.dK kvs)) (hl : kds.length ≤ LB) (r : KD β Ω H kvs kds) : OwnAt β Ω H a (dictD kds) :=
  .inl ⟨kvs, kds.map (·.2), h, by rw [r.length]; exact hl, r.vals.1, r.vals.2⟩
end
theorem putD_len (kds : KDs) (k : Key) (d : PyData) : kds.length ≤ (putD kds k d).length := by
  unfold putD
  split
  · rw [List.length_map]; exact Nat.le_refl _
  · rw [List.length_append]; exact Nat.le_add_right _ _
def dcGo (p : MG) (t : MT) (ek ev : ME) (S : SEnv) : List PyData → KDs → Drw → Option (KDs × Drw)
  | [], acc, w => some (acc, w)
  | d :: ds, acc, w => (p d S).bind fun S1 => (t S1 w).bind fun q => if q.1 = true then (ek S1 q.2).bind fun y => (ev S1 y.2).bind fun z => (keyOf y.1).bind fun k => dcGo p t ek ev S ds (putD acc k z.1) z.2 else dcGo p t ek ev S ds acc q.2
theorem dcGo_len {p : MG} {t : MT} {ek ev : ME} {S : SEnv} : ∀ {ds : List PyData} {acc rs : KDs} {w w' : Drw}, dcGo p t ek ev S ds acc w = some (rs, w') → acc.length ≤ rs.length
  | [], acc, rs, w, w', h => by cases h; exact Nat.le_refl _
  | d :: ds, acc, rs, w, w', h => by
    unfold dcGo at h
    obtain ⟨S1, _, h⟩ := Option.bind_eq_some_iff.mp h
    obtain ⟨⟨b, wb⟩, _, h⟩ := Option.bind_eq_some_iff.mp h
    cases b with
    | true =>
      rw [if_pos rfl] at h
      obtain ⟨y, _, h⟩ := Option.bind_eq_some_iff.mp h
      obtain ⟨z, _, h⟩ := Option.bind_eq_some_iff.mp h
      obtain ⟨k, _, h⟩ := Option.bind_eq_some_iff.mp h
      exact Nat.le_trans (putD_len _ _ _) (dcGo_len h)
    | false =>
      rw [if_neg Bool.false_ne_true] at h
      exact dcGo_len h
def mDc (mi : MA) (p : MG) (t : MT) (ek ev : ME) (vs : List Nat) : ME := fun S w => (mi S w).bind fun q => (dcGo p t ek ev (wipeS S vs) q.1 [] q.2).bind fun r => if r.1.length ≤ LB then some (dictD r.1, r.2) else none
section
variable {β : Bool} {X : Cx} {tg iter kx vx : Expr} {ifs : List Expr} {scope : Scope} {own : List (Str × Nat)} {pos : Pos} {p : MG} {mi : MA} {mt : MT} {mk me : ME} {z : Bool}
theorem dc_walk {vs : List Nat} {F : Fx β} {Ω : AS} {σ : L2.St} {S : SEnv} {w1 w2 : Drw} {ds : List PyData} {rs : KDs} {J : It} {H1 : Hp} {Q : VK} (R1 : Rel F H1 Ω σ S w1) (wk : Walk z .top F Ω J H1 ds) (h2 : dcGo p mt mk me (wipeS S vs) ds [] w1 = some (rs, w2)) (hl : rs.length ≤ LB)
    (q : ∀ D H', H1 D = none → Rel F H' Ω σ S w2 → Evs F.st H1 H' → OwnAt β (Also Ω D) H' D (dictD rs) → Q (.ref D) H') (D : Addr) (hD : H1 D = none) :
    ∃ W : Nat → Nat → Hp → Prop, (∃ m, W 0 m (upd H1 D (.dK []))) ∧ ∀ i m H, W i m H →
      (J.stop i H ∧ Q (.ref D) H) ∨ (J.go i H ∧ ∃ Nx : Hp → Prop, (∀ H', Nx H' → ∃ m', m' < m ∧ W (i + 1) m' H') ∧ ∀ x H', J.yld i H x H' → tPat β z vs p x (L2.wipe σ vs) H' fun σ2 H2 => L2.wipe σ2 vs = L2.wipe σ vs ∧ tTs β mt σ2 H2 fun b H3 =>
        if b = true then tEv β .esc mk σ2 H3 fun y H4 => tEv β .esc me σ2 H4 fun u H5 => ∃ kvs k, y = kV k ∧ H5 D = some (.dK kvs) ∧ kvs.length < sizeLine ∧ Nx (upd H5 D (.dK (putK kvs k u))) else Nx H3) := by
  let Inv : Nat → Hp → Prop := fun i H' => ∃ wi kvs kds, Evs F.st H1 H' ∧ WOk F.st F.cl F.Ψ H' wi ∧ H' D = some (.dK kvs) ∧ KD β (Also Ω D) H' kvs kds ∧ dcGo p mt mk me (wipeS S vs) (ds.drop i) kds wi = some (rs, w2)
  have ax : ∀ {H' : Hp} {xs : List (Key × V)}, Evs F.st H1 H' → Evs F.st H1 (upd H' D (.dK xs)) := fun e a o h n => by
    rw [upd_ne (ne_of_none h hD)]
    exact e a o h n
  have wx : ∀ {H' : Hp} {xs : List (Key × V)} {wi}, WOk F.st F.cl F.Ψ H' wi → WOk F.st F.cl F.Ψ (upd H' D (.dK xs)) wi := fun {H' xs wi} k => by
    cases hst : F.st with
    | none => trivial
    | some s =>
      have n1 : ∀ a, F.Ψ a → a ≠ D := fun a ha hz => R1.dom a (R1.base a ha) (by rw [hz]; exact hD)
      rw [hst] at k
      obtain ⟨k0, k1, k2, k3, k4, k5⟩ := k
      exact ⟨k0, k1, k2, by rw [upd_ne (n1 _ k0)]; exact k3, by rw [upd_ne (n1 _ k1)]; exact k4, k5⟩
  refine ⟨fun i m H' => m = ds.length - i ∧ i ≤ ds.length ∧ Inv i H', ⟨ds.length, by simp, Nat.zero_le _, w1, [], [], ax (Evs.refl _ _), wx R1.wok, upd_same, .nil, h2⟩, ?_⟩
  rintro i m H' ⟨rfl, hi, wi, kvs, kds, ev, wok, hDl, hacc, hgo⟩
  have gr : Grow Ω H1 (Also Ω D) H' := ⟨fun a h => h.elim .inl fun z => .inr (by rw [z]; exact hD), R1.evo ev⟩
  have st : Stay .top F Ω H1 (Also Ω D) H' := ⟨gr, fun _ => ev⟩
  by_cases hlt : i < ds.length
  · refine .inr ⟨wk.go _ H' i st hlt, Inv (i + 1), fun H'' p' => ⟨ds.length - (i + 1), by omega, rfl, hlt, p'⟩, fun x H2 y => ?_⟩
    rw [List.drop_eq_getElem_cons hlt] at hgo
    unfold dcGo at hgo
    obtain ⟨S1, g1, hgo⟩ := Option.bind_eq_some_iff.mp hgo
    obtain ⟨⟨b, wb⟩, g2, hgo⟩ := Option.bind_eq_some_iff.mp hgo
    obtain ⟨ex, hit⟩ := wk.yld _ H' i x H2 _ st (List.getElem?_eq_getElem hlt) y
    have R2 : Rel F H' (Also Ω D) (L2.wipe σ vs) (wipeS S vs) wi := (R1.also hD ev wok (by rw [hDl]; exact fun z => nomatch z)).wipe vs
    have R3 := R2.ex ex
    refine ⟨F, Also Ω D, wipeS S vs, wi, _, S1, R3, hit, g1, fun σ' R4 sb => ⟨by rw [sb.wipe]; exact wipe_twice vs, F, Also Ω D, S1, wi, wb, b, R4, g2, fun H3 R5 e5 => ?_⟩⟩
    have nD : F.st ≠ some D := fun z => R1.dom D (R1.stΨ z).2 hD
    have l3 : H3 D = some (.dK kvs) := e5 D _ (ex D _ hDl) nD
    have g3 : Evs F.st H1 H3 := (ev.trans ex.evs).trans e5
    have a3 : KD β (Also Ω D) H3 kvs kds := hacc.grow ((Ext.grow ex).trans (R4.grow e5))
    cases b with
    | true =>
      simp only [if_true] at hgo ⊢
      obtain ⟨⟨yd, wy⟩, g4, hgo⟩ := Option.bind_eq_some_iff.mp hgo
      obtain ⟨⟨zd, wz⟩, g5, hgo⟩ := Option.bind_eq_some_iff.mp hgo
      obtain ⟨k, g6, hgo⟩ := Option.bind_eq_some_iff.mp hgo
      refine ⟨F, Also Ω D, S1, wb, wy, yd, R5, g4, fun yv H4 R6 e6 hy => ⟨F, Also Ω D, S1, wy, wz, zd, R6, g5, fun zv H5 R7 e7 hz => ?_⟩⟩
      have l5 : H5 D = some (.dK kvs) := e7 D _ (e6 D _ l3 nD) nD
      have a5 : KD β (Also Ω D) H5 kvs kds := (a3.grow (R5.grow e6)).grow (R6.grow e7)
      have al : kvs.length < sizeLine := by
        have q0 := putD_len kds k zd
        have q1 : (putD kds k zd).length ≤ rs.length := dcGo_len hgo
        have q2 := hacc.length
        have q3 : kvs.length ≤ LB := by omega
        exact Nat.lt_of_le_of_lt q3 (by rw [sizeLine_eq]; decide)
      refine ⟨kvs, k, keyOf_dv g6 hy, l5, al, wz, putK kvs k zv, putD kds k zd, ax ((g3.trans e6).trans e7), wx R7.wok, upd_same, ?_, hgo⟩
      refine KD.grow (Ω := Also Ω D) (H := H5) ⟨fun a h => .inl h, fun a o h n => ?_⟩ (a5.put hz)
      rw [upd_ne (fun z => n (.inr z))]
      exact h
    | false =>
      simp only [Bool.false_eq_true, if_false] at hgo ⊢
      exact ⟨wb, kvs, kds, g3, R5.wok, l3, a3, hgo⟩
  · have e : i = ds.length := by omega
    subst e
    rw [List.drop_length] at hgo
    cases hgo
    exact .inl ⟨wk.stop _ H' _ st (Nat.le_refl _), q D H' hD (R1.evs ev wok) ev (hacc.own hDl hl)⟩
theorem df_dc (hc : X.calm = true) (hN : X.N.Nodup) (hi : DI β z .top X tg iter mi) (ok : BlkOk X.N X.env.scope scope own)
    (hg : ∀ (s : Shared) (H : Hp) (C : Addr) (cl : List (Str × Addr)) (fp : List Addr), DG β z (own.map (·.2)) (X.blk s H scope (compEnvC scope cl C X.env) fp) tg p) (ht : ∀ (s : Shared) (H : Hp) (C : Addr) (cl : List (Str × Addr)) (fp : List Addr), DTs β (X.blk s H scope (compEnvC scope cl C X.env) fp) ifs mt)
    (hk : ∀ (s : Shared) (H : Hp) (C : Addr) (cl : List (Str × Addr)) (fp : List Addr), DE β .esc (X.blk s H scope (compEnvC scope cl C X.env) fp) kx mk)
    (he : ∀ (s : Shared) (H : Hp) (C : Addr) (cl : List (Str × Addr)) (fp : List Addr), DE β .esc (X.blk s H scope (compEnvC scope cl C X.env) fp) vx me) (hs : ∀ x, foldedSetIterable iter X.env x = pure x := by intro _; rfl) :
    DF β X (.DictComp kx vx [⟨tg, iter, ifs, 0⟩] scope pos) (mDc mi p mt mk me (own.map (·.2))) :=
  pe_imp (pe_dc hc hN hi ok hg ht hk he hs) fun σ H Q ⟨F, Ω, S, w, w', d, R, hm, q⟩ => by
  unfold mDc at hm
  obtain ⟨⟨ds, w1⟩, h1, hm⟩ := Option.bind_eq_some_iff.mp hm
  obtain ⟨⟨rs, w2⟩, h2, hm⟩ := Option.bind_eq_some_iff.mp hm
  obtain ⟨hl, hm⟩ := ite_some hm
  cases hm
  exact ⟨F, Ω, S, w, w1, ds, R, h1, fun J H1 R1 e1 wk => dc_walk R1 wk h2 hl fun D H' hD R' ev ho => q D H' R' (e1.trans ev) (none_back R1 e1 hD) ho⟩
theorem de_dc (hc : X.calm = true) (hN : X.N.Nodup) (hi : DI β z .top X tg iter mi) (ok : BlkOk X.N X.env.scope scope own)
    (hg : ∀ (s : Shared) (H : Hp) (C : Addr) (cl : List (Str × Addr)) (fp : List Addr), DG β z (own.map (·.2)) (X.blk s H scope (compEnvC scope cl C X.env) fp) tg p) (ht : ∀ (s : Shared) (H : Hp) (C : Addr) (cl : List (Str × Addr)) (fp : List Addr), DTs β (X.blk s H scope (compEnvC scope cl C X.env) fp) ifs mt)
    (hk : ∀ (s : Shared) (H : Hp) (C : Addr) (cl : List (Str × Addr)) (fp : List Addr), DE β .esc (X.blk s H scope (compEnvC scope cl C X.env) fp) kx mk)
    (he : ∀ (s : Shared) (H : Hp) (C : Addr) (cl : List (Str × Addr)) (fp : List Addr), DE β .esc (X.blk s H scope (compEnvC scope cl C X.env) fp) vx me) (hs : ∀ x, foldedSetIterable iter X.env x = pure x := by intro _; rfl) :
    DE β .esc X (.DictComp kx vx [⟨tg, iter, ifs, 0⟩] scope pos) (mDc mi p mt mk me (own.map (·.2))) := de_of_fr (df_dc hc hN hi ok hg ht hk he hs)
/-! ### sorted(d), the keys ints -/
def keysI : List (PyData × PyData) → Option (List Int)
  | [] => some []
  | (.int i, _) :: r => (keysI r).map (i :: ·)
  | _ => none
def dSortDI : List PyData → Option PyData
  | [.dict ps] => (keysI ps).bind fun ks => if ks ≠ [] ∧ ks.length < 64 then some (.list ((srtI ks).map .int)) else none
  | _ => none
theorem keysI_dK : ∀ {kvs : List (Key × V)} {ds : List PyData} {ks : List Int}, kvs.length = ds.length → keysI ((kvs.map fun p => keyD p.1).zip ds) = some ks → kvs.map (·.1) = ks.map Sum.inl
  | [], _, ks, _, h => by cases h; rfl
  | (k, v) :: kvs, [], ks, hl, h => by cases hl
  | (.inl i, v) :: kvs, d :: ds, ks, hl, h => by
    rw [List.map_cons, List.zip_cons_cons] at h
    obtain ⟨ms, h1, rfl⟩ := Option.map_eq_some_iff.mp (show (keysI _).map (i :: ·) = some ks from h)
    rw [List.map_cons, List.map_cons, keysI_dK (by simpa using hl) h1]
  | (.inr x, v) :: kvs, d :: ds, ks, hl, h => by
    rw [List.map_cons, List.zip_cons_cons] at h
    cases h
theorem keysI_dT : ∀ {kvs : List (List Key × V)} {ds : List PyData} {ks : List Int}, kvs.length = ds.length → keysI ((kvs.map fun p => PyData.tuple (p.1.map keyD)).zip ds) = some ks → ks = []
  | [], _, ks, _, h => by cases h; rfl
  | _ :: _, [], _, hl, _ => by cases hl
  | (k, v) :: kvs, d :: ds, ks, hl, h => by
    rw [List.map_cons, List.zip_cons_cons] at h
    cases h
theorem Dx.dict_inv {r : Strg} {F : Fx β} {Ω : AS} {H : Hp} {v : V} {ps : List (PyData × PyData)} (h : Dx r F Ω H v (.dict ps)) :
    (∃ a kvs ds, v = .ref a ∧ Rd H a (.dK kvs) ∧ kvs.length ≤ LB ∧ DvA β Ω H (kvs.map (·.2)) ds ∧ ps = (kvs.map fun p => keyD p.1).zip ds) ∨
    ∃ a kvs ds, v = .ref a ∧ Rd H a (.dT kvs) ∧ kvs.length ≤ LB ∧ DvA β Ω H (kvs.map (·.2)) ds ∧ ps = (kvs.map fun p => PyData.tuple (p.1.map keyD)).zip ds := by
  have of : Dv β Ω H v (.dict ps) → _ := fun h => by
    show (∃ a kvs ds, v = .ref a ∧ Rd H a (.dK kvs) ∧ kvs.length ≤ LB ∧ DvA β Ω H (kvs.map (·.2)) ds ∧ ps = (kvs.map fun p => keyD p.1).zip ds) ∨
      ∃ a kvs ds, v = .ref a ∧ Rd H a (.dT kvs) ∧ kvs.length ≤ LB ∧ DvA β Ω H (kvs.map (·.2)) ds ∧ ps = (kvs.map fun p => PyData.tuple (p.1.map keyD)).zip ds
    cases h with
    | dK h1 h2 h3 h4 => exact .inl ⟨_, _, _, rfl, h1, h3, h4, rfl⟩
    | dT h1 h2 h3 h4 => exact .inr ⟨_, _, _, rfl, h1, h3, h4, rfl⟩
  cases r with
  | esc => exact of h
  | top =>
    rcases h with h | ⟨a, e, _, h⟩
    · exact of h
    · rcases h with ⟨kvs, ds, h1, h2, h3, h4⟩ | ⟨kvs, ds, h1, h2, h3, h4⟩
      · exact .inl ⟨a, kvs, ds, e, .inl h1, h2, h3, h4⟩
      · exact .inr ⟨a, kvs, ds, e, .inl h1, h2, h3, h4⟩
theorem fn_sortDI {r : Strg} : Fn β r (fun xs H Q => ∃ (a : Addr) (kvs : List (Key × V)) (ks : List Int), xs = [.ref a] ∧ Rd H a (.dK kvs) ∧ kvs.map (·.1) = ks.map Sum.inl ∧ ks.length < 64 ∧
    ∀ (ys : List Int) (p : Addr), ys.Perm ks → ys.Pairwise (· ≤ ·) → H p = none → Q (.ref p) (upd H p (.lst (ys.map V.int)))) dSortDI := by
  intro F H Ω σ S w vs ds d Q R hv hg q
  match ds, hg with
  | [.dict ps], hg =>
    obtain ⟨ks, h1, h2⟩ := Option.bind_eq_some_iff.mp (show ((keysI ps).bind fun ks => if ks ≠ [] ∧ ks.length < 64 then some (PyData.list ((srtI ks).map .int)) else none) = some d from hg)
    obtain ⟨⟨h3, h4⟩, rfl⟩ := ite_some h2
    obtain ⟨v, rfl, hx⟩ := hv.one
    rcases hx.dict_inv with ⟨a, kvs, es, rfl, k1, k2, k3, rfl⟩ | ⟨a, kvs, es, rfl, k1, k2, k3, rfl⟩
    · have hl : kvs.length = es.length := by have := k3.length; rw [List.length_map] at this; exact this
      refine ⟨a, kvs, ks, rfl, k1, keysI_dK hl h1, h4, fun ys p hp hs hn => ?_⟩
      have e3 : ys = srtI ks := srt_one (hp.trans (srtI_perm ks).symm) hs (srtI_le ks)
      subst e3
      obtain ⟨e1, dv⟩ := new_lst R (DvA.ofInts (srtI ks)) (by rw [List.length_map, (srtI_perm ks).length_eq]; exact Nat.le_trans (Nat.le_of_lt h4) (by decide)) hn
      exact q _ _ e1 dv
    · have hl : kvs.length = es.length := by have := k3.length; rw [List.length_map] at this; exact this
      exact absurd (keysI_dT hl h1) h3
end
end Mini


set_option Elab.async false
set_option linter.all false
set_option maxRecDepth 100000
set_option maxHeartbeats 4000000
/-! Mini R: a comprehension of two clauses; list(range(n)). -/
namespace Mini
open PySem PySem.Spec PyProof.Rows L2

section
variable {β : Bool} {F : Fx β} {H H' : Hp} {Ω : AS} {σ : L2.St} {S : SEnv} {w w' : Drw}
/-- one object of the def's own, which no slot holds, may have changed -/
theorem Rel.atD (R : Rel F H Ω σ S w) {D : Addr} (hD : Ω D) (nD : F.H0 D = none) (e : ∀ a o, H a = some o → F.st ≠ some a → a ≠ D → H' a = some o) (h' : H' D ≠ none)
    (no : ∀ (i : Nat) (x : PyData), S[i]? = some (.own x) → σ[i]? ≠ some (some (.ref D))) (k : WOk F.st F.cl F.Ψ H' w') : Rel F H' Ω σ S w' := by
  have ev : Evo Ω H H' := fun a o h n => e a o h (fun z => n (R.stΨ z).2) fun z => n (by rw [z]; exact hD)
  have gr : Grow Ω H Ω H' := ev.grow
  refine ⟨fun a o h n => e a o (R.ext a o h n) n fun z => (by rw [z, nD] at h; cases h), R.base, fun a h => ?_, R.old, R.len, fun i sl hi => ?_, R.uniq, k⟩
  · by_cases hz : a = D
    · rw [hz]; exact h'
    cases q : H a with
    | none => exact absurd q (R.dom a h)
    | some o =>
      by_cases hs : F.st = some a
      · have k' := k
        rw [hs] at k'
        obtain ⟨_, _, _, z, _⟩ := k'
        rw [z]
        exact fun z => nomatch z
      · rw [e a o q hs hz]
        exact fun z => nomatch z
  · have q := R.slot i sl hi
    cases sl with
    | no => trivial
    | val d =>
      obtain ⟨v, h1, h2⟩ := q
      exact ⟨v, h1, h2.grow gr⟩
    | own d =>
      obtain ⟨a, h1, h2, h3, h4⟩ := q
      obtain ⟨o, ho⟩ := h4.some
      have hne : F.st ≠ some a := fun z => R.old a (R.stΨ z).1 h3
      have hnD : a ≠ D := fun z => no i d hi (by rw [h1, z])
      exact ⟨a, h1, h2, h3, h4.grow gr ((e a o ho hne hnD).trans ho.symm)⟩
    | stt => exact q
    | raw v => exact q
end
/-- a pattern makes no slot the def's own -/
def KeepOwn (p : MG) : Prop := ∀ d S S1, p d S = some S1 → ∀ (i : Nat) (x : PyData), S1[i]? = some (Sl.own x) → S[i]? = some (Sl.own x)
def KeepOwns (p : MGs) : Prop := ∀ d S S1, p d S = some S1 → ∀ (i : Nat) (x : PyData), S1[i]? = some (Sl.own x) → S[i]? = some (Sl.own x)
theorem ko_name {j : Nat} : KeepOwn (pName j) := fun d S S1 h i x hi => by
  cases h
  rw [List.getElem?_set] at hi
  split at hi
  · split at hi <;> cases hi
  · exact hi
theorem kos_nil : KeepOwns pNil := fun d S S1 h i x hi => by
  cases d with
  | nil => cases h; exact hi
  | cons a r => cases h
theorem kos_cons {p : MG} {ps : MGs} (h1 : KeepOwn p) (h2 : KeepOwns ps) : KeepOwns (pCons p ps) := fun d S S1 h i x hi => by
  cases d with
  | nil => cases h
  | cons a r =>
    obtain ⟨S2, e1, e2⟩ := Option.bind_eq_some_iff.mp (show (p a S).bind (fun S1 => ps r S1) = some S1 from h)
    exact h1 _ _ _ e1 i x (h2 _ _ _ e2 i x hi)
theorem ko_tup {ps : MGs} (h1 : KeepOwns ps) : KeepOwn (pTup ps) := fun d S S1 h i x hi => by
  cases d with
  | tuple xs => exact h1 _ _ _ h i x hi
  | _ => cases h

def lc2Go (p : MG) (t : MT) (mi : MA) (p1 : MG) (t1 : MT) (e : ME) (vs1 : List Nat) (S : SEnv) : List PyData → Drw → Option (List PyData × Drw)
  | [], w => some ([], w)
  | d :: ds, w => (p d S).bind fun S1 => (t S1 w).bind fun q => if q.1 = true then (mi S1 q.2).bind fun y => (lcGo p1 t1 e (wipeS S1 vs1) y.1 y.2).bind fun r => (lc2Go p t mi p1 t1 e vs1 S ds r.2).map fun z => (r.1 ++ z.1, z.2)
    else lc2Go p t mi p1 t1 e vs1 S ds q.2
def mLc2 (m0 : MA) (p : MG) (t : MT) (mi : MA) (p1 : MG) (t1 : MT) (e : ME) (vs vs1 : List Nat) : ME := fun S w => (m0 S w).bind fun q => (lc2Go p t mi p1 t1 e vs1 (wipeS S vs) q.1 q.2).bind fun r => if r.1.length ≤ LB then some (.list r.1, r.2) else none
section
variable {β : Bool} {X : Cx} {tg iter tg1 iter1 elt c : Expr} {ifs ifs1 : List Expr} {scope : Scope} {own : List (Str × Nat)} {pos : Pos} {p p1 : MG} {mi m0 : MA} {mt mt1 : MT} {me : ME} {us : List Nat} {z z1 : Bool}
theorem lc2_walk {vs vs1 : List Nat} {F : Fx β} {Ω : AS} {σ : L2.St} {S : SEnv} {w1 w2 : Drw} {ds rs : List PyData} {J : It} {H1 : Hp} {Q : VK} (ko : KeepOwn p) (R1 : Rel F H1 Ω σ S w1) (wk : Walk z .top F Ω J H1 ds)
    (h2 : lc2Go p mt mi p1 mt1 me vs1 (wipeS S vs) ds w1 = some (rs, w2)) (hl : rs.length ≤ LB)
    (q : ∀ D H', H1 D = none → Rel F H' Ω σ S w2 → Evs F.st H1 H' → OwnAt β (Also Ω D) H' D (.list rs) → Q (.ref D) H') (D : Addr) (hD : H1 D = none) :
    ∃ W : Nat → Nat → Hp → Prop, (∃ m, W 0 m (upd H1 D (.lst []))) ∧ ∀ i m H, W i m H →
      (J.stop i H ∧ Q (.ref D) H) ∨ (J.go i H ∧ ∃ Nx : Hp → Prop, (∀ H', Nx H' → ∃ m', m' < m ∧ W (i + 1) m' H') ∧ ∀ x H', J.yld i H x H' → tPat β z vs p x (L2.wipe σ vs) H' fun σ2 H2 => L2.wipe σ2 vs = L2.wipe σ vs ∧ tTs β mt σ2 H2 fun b H3 =>
        if b = true then tIt β z1 .esc mi σ2 H3 fun J1 H4 => ∃ W1 : Nat → Nat → Hp → Prop, (∃ m, W1 0 m H4) ∧ ∀ j k H, W1 j k H →
          (J1.stop j H ∧ Nx H) ∨ (J1.go j H ∧ ∃ Nx1 : Hp → Prop, (∀ H', Nx1 H' → ∃ k', k' < k ∧ W1 (j + 1) k' H') ∧ ∀ x H', J1.yld j H x H' → tPat β z1 vs1 p1 x (L2.wipe σ2 vs1) H' fun σ3 H5 => L2.wipe σ3 vs1 = L2.wipe σ2 vs1 ∧ tTs β mt1 σ3 H5 fun b H6 =>
            if b = true then tEv β .esc me σ3 H6 fun y H7 => ∃ acc, H7 D = some (.lst acc) ∧ acc.length < sizeLine ∧ Nx1 (upd H7 D (.lst (acc ++ [y]))) else Nx1 H6)
        else Nx H3) := by
  let Inv : Nat → Hp → Prop := fun i H' => ∃ wi accv accd rest, Evs F.st H1 H' ∧ WOk F.st F.cl F.Ψ H' wi ∧ H' D = some (.lst accv) ∧ DvA β (Also Ω D) H' accv accd ∧ lc2Go p mt mi p1 mt1 me vs1 (wipeS S vs) (ds.drop i) wi = some (rest, w2) ∧ rs = accd ++ rest
  have ax : ∀ {H' xs}, Evs F.st H1 H' → Evs F.st H1 (upd H' D (.lst xs)) := fun e a o h n => by
    rw [upd_ne (ne_of_none h hD)]
    exact e a o h n
  have wx : ∀ {H' : Hp} {xs wi}, WOk F.st F.cl F.Ψ H' wi → WOk F.st F.cl F.Ψ (upd H' D (.lst xs)) wi := fun {H' xs wi} k => by
    cases hst : F.st with
    | none => trivial
    | some s =>
      have n1 : ∀ a, F.Ψ a → a ≠ D := fun a ha hz => R1.dom a (R1.base a ha) (by rw [hz]; exact hD)
      rw [hst] at k
      obtain ⟨k0, k1, k2, k3, k4, k5⟩ := k
      exact ⟨k0, k1, k2, by rw [upd_ne (n1 _ k0)]; exact k3, by rw [upd_ne (n1 _ k1)]; exact k4, k5⟩
  have h0D : F.H0 D = none := by
    cases q0 : F.H0 D with
    | none => rfl
    | some o =>
      have := R1.ext D o q0 (fun z2 => R1.dom D (R1.stΨ z2).2 hD)
      rw [hD] at this; cases this
  have nD : F.st ≠ some D := fun z => R1.old D (R1.stΨ z).1 h0D
  refine ⟨fun i m H' => m = ds.length - i ∧ i ≤ ds.length ∧ Inv i H', ⟨ds.length, by simp, Nat.zero_le _, w1, [], [], rs, ax (Evs.refl _ _), wx R1.wok, upd_same, .nil, h2, rfl⟩, ?_⟩
  rintro i m H' ⟨rfl, hi, wi, accv, accd, rest, ev, wok, hDl, hacc, hgo, hrs⟩
  have gr : Grow Ω H1 (Also Ω D) H' := ⟨fun a h => h.elim .inl fun z => .inr (by rw [z]; exact hD), R1.evo ev⟩
  have st : Stay .top F Ω H1 (Also Ω D) H' := ⟨gr, fun _ => ev⟩
  by_cases hlt : i < ds.length
  · refine .inr ⟨wk.go _ H' i st hlt, Inv (i + 1), fun H'' p' => ⟨ds.length - (i + 1), by omega, rfl, hlt, p'⟩, fun x H2 y => ?_⟩
    rw [List.drop_eq_getElem_cons hlt] at hgo
    unfold lc2Go at hgo
    obtain ⟨S1, g1, hgo⟩ := Option.bind_eq_some_iff.mp hgo
    obtain ⟨⟨b, wb⟩, g2, hgo⟩ := Option.bind_eq_some_iff.mp hgo
    obtain ⟨ex, hit⟩ := wk.yld _ H' i x H2 _ st (List.getElem?_eq_getElem hlt) y
    have R2 : Rel F H' (Also Ω D) (wipe σ vs) (wipeS S vs) wi := (R1.also hD ev wok (by rw [hDl]; exact fun z => nomatch z)).wipe vs
    have R3 := R2.ex ex
    refine ⟨F, Also Ω D, wipeS S vs, wi, _, S1, R3, hit, g1, fun σ' R4 sb => ⟨by rw [sb.wipe]; exact wipe_twice vs, F, Also Ω D, S1, wi, wb, b, R4, g2, fun H3 R5 e5 => ?_⟩⟩
    have noD : ∀ (i : Nat) (x : PyData), S1[i]? = some (.own x) → σ'[i]? ≠ some (some (.ref D)) := fun i x hi hz => by
      have k1 := ko _ _ _ g1 i x hi
      rcases wipeS_at k1 with z | ⟨k2, k3⟩
      · cases z
      · obtain ⟨a, q1, q2, _⟩ := R1.slot i _ k2
        rw [sb.2 i k3, wipe_out k3, q1] at hz
        cases hz
        exact R1.dom D q2 hD
    have l3 : H3 D = some (.lst accv) := e5 D _ (ex D _ hDl) nD
    have g3 : Evs F.st H1 H3 := (ev.trans ex.evs).trans e5
    have a3 : DvA β (Also Ω D) H3 accv accd := hacc.grow ((Ext.grow ex).trans (R4.grow e5))
    cases b with
    | true =>
      simp only [if_true] at hgo ⊢
      obtain ⟨⟨ds1, wy⟩, g4, hgo⟩ := Option.bind_eq_some_iff.mp hgo
      obtain ⟨⟨r1, wr⟩, g5, hgo⟩ := Option.bind_eq_some_iff.mp hgo
      obtain ⟨⟨rest', w2'⟩, g6, hgo⟩ := Option.map_eq_some_iff.mp hgo
      simp only [Prod.mk.injEq] at hgo
      obtain ⟨hgo1, hgo2⟩ := hgo
      subst hgo1; subst hgo2
      refine ⟨F, Also Ω D, S1, wb, wy, ds1, R5, g4, fun J1 H4 R6 e6 wk1 => ?_⟩
      have l4 : H4 D = some (.lst accv) := e6 D _ l3 nD
      have a4 : DvA β (Also Ω D) H4 accv accd := a3.grow (R5.grow e6)
      have g4' : Evs F.st H1 H4 := g3.trans e6
      let Inv1 : Nat → Hp → Prop := fun j H' => ∃ wi accv acc1 rest1, Evs F.st H1 H' ∧ WOk F.st F.cl F.Ψ H' wi ∧ H' D = some (.lst accv) ∧ DvA β (Also Ω D) H' accv (accd ++ acc1) ∧ lcGo p1 mt1 me (wipeS S1 vs1) (ds1.drop j) wi = some (rest1, wr) ∧ r1 = acc1 ++ rest1 ∧
        ∀ a o, H4 a = some o → F.st ≠ some a → a ≠ D → H' a = some o
      refine ⟨fun j k H' => k = ds1.length - j ∧ j ≤ ds1.length ∧ Inv1 j H', ⟨ds1.length, by simp, Nat.zero_le _, wy, accv, [], r1, g4', R6.wok, l4, by rw [List.append_nil]; exact a4, g5, rfl, fun a o h _ _ => h⟩, ?_⟩
      rintro j k H' ⟨rfl, hj, wi, accv, acc1, rest1, ev, wok, hDl, hacc, hgo, hr1, hkp⟩
      have ev4 : Evo (Also Ω D) H4 H' := fun a o h n => hkp a o h (fun z => n (R6.stΨ z).2) fun z => n (.inr z)
      have st1 : Stay .esc F (Also Ω D) H4 (Also Ω D) H' := ⟨ev4.grow, fun z => nomatch z⟩
      have RR : Rel F H' (Also Ω D) σ' S1 wi := R6.atD (.inr rfl) h0D hkp (by rw [hDl]; exact fun z => nomatch z) noD wok
      by_cases hlt : j < ds1.length
      · refine .inr ⟨wk1.go _ H' j st1 hlt, Inv1 (j + 1), fun H'' p' => ⟨ds1.length - (j + 1), by omega, rfl, hlt, p'⟩, fun x H2 y => ?_⟩
        rw [List.drop_eq_getElem_cons hlt] at hgo
        unfold lcGo at hgo
        obtain ⟨S2, f1, hgo⟩ := Option.bind_eq_some_iff.mp hgo
        obtain ⟨⟨b, wb⟩, f2, hgo⟩ := Option.bind_eq_some_iff.mp hgo
        obtain ⟨ex, hit⟩ := wk1.yld _ H' j x H2 _ st1 (List.getElem?_eq_getElem hlt) y
        have R3 := (RR.wipe vs1).ex ex
        refine ⟨F, Also Ω D, wipeS S1 vs1, wi, _, S2, R3, hit, f1, fun σ3 R4 sb => ⟨by rw [sb.wipe]; exact wipe_twice vs1, F, Also Ω D, S2, wi, wb, b, R4, f2, fun H3 R5 e5 => ?_⟩⟩
        have l3 : H3 D = some (.lst accv) := e5 D _ (ex D _ hDl) nD
        have g3 : Evs F.st H1 H3 := (ev.trans ex.evs).trans e5
        have a3 : DvA β (Also Ω D) H3 accv (accd ++ acc1) := hacc.grow ((Ext.grow ex).trans (R4.grow e5))
        have k3 : ∀ a o, H4 a = some o → F.st ≠ some a → a ≠ D → H3 a = some o := fun a o h n1 n2 => e5 a o (ex a o (hkp a o h n1 n2)) n1
        cases b with
        | true =>
          simp only [if_true] at hgo ⊢
          obtain ⟨⟨yd, wy⟩, f4, hgo⟩ := Option.bind_eq_some_iff.mp hgo
          obtain ⟨⟨rest'', w2''⟩, f5, hgo⟩ := Option.map_eq_some_iff.mp hgo
          cases hgo
          refine ⟨F, Also Ω D, S2, wb, wy, yd, R5, f4, fun yv H4' R6' e6' hy => ?_⟩
          have l4 : H4' D = some (.lst accv) := e6' D _ l3 nD
          have a4 : DvA β (Also Ω D) H4' accv (accd ++ acc1) := a3.grow (R5.grow e6')
          have al : accv.length < sizeLine := LB_lt (by
            have q1 := hacc.length
            rw [hrs, hr1, List.length_append, List.length_append, List.length_append] at hl
            rw [List.length_append] at q1
            simp only [List.length_cons] at hl
            omega)
          refine ⟨accv, l4, al, wy, accv ++ [yv], acc1 ++ [yd], rest'', ax (g3.trans e6'), wx R6'.wok, upd_same, ?_, f5, by rw [hr1, List.append_assoc]; rfl, fun a o h n1 n2 => by rw [upd_ne n2]; exact e6' a o (k3 a o h n1 n2) n1⟩
          rw [← List.append_assoc]
          refine DvA.grow (Ω := Also Ω D) (H := H4') ⟨fun a h => .inl h, fun a o h n => ?_⟩ (a4.append (.cons hy .nil))
          rw [upd_ne (fun z => n (.inr z))]
          exact h
        | false =>
          simp only [Bool.false_eq_true, if_false] at hgo ⊢
          exact ⟨wb, accv, acc1, rest1, g3, R5.wok, l3, a3, hgo, hr1, k3⟩
      · have e : j = ds1.length := by omega
        subst e
        rw [List.drop_length] at hgo
        cases hgo
        rw [List.append_nil] at hr1
        subst hr1
        exact .inl ⟨wk1.stop _ H' _ st1 (Nat.le_refl _), _, accv, accd ++ r1, rest', ev, wok, hDl, hacc, g6, by rw [hrs, List.append_assoc]⟩
    | false =>
      simp only [Bool.false_eq_true, if_false] at hgo ⊢
      exact ⟨wb, accv, accd, rest, g3, R5.wok, l3, a3, hgo, hrs⟩
  · have e : i = ds.length := by omega
    subst e
    rw [List.drop_length] at hgo
    cases hgo
    rw [List.append_nil] at hrs
    subst hrs
    exact .inl ⟨wk.stop _ H' _ st (Nat.le_refl _), q D H' hD (R1.evs ev wok) ev ⟨accv, hDl, by rw [hacc.length]; exact hl, hacc⟩⟩
theorem lc2_fr {vs vs1 : List Nat} {σ : L2.St} {H : Hp} {Q : VK} (ko : KeepOwn p) (h : tFr β (mLc2 m0 p mt mi p1 mt1 me vs vs1) σ H Q) : tLc2 (tIt β z .top m0) (tPat β z vs p) (tTs β mt) (tIt β z1 .esc mi) (tPat β z1 vs1 p1) (tTs β mt1) (tEv β .esc me) vs vs1 σ H Q := by
  obtain ⟨F, Ω, S, w, w', d, R, hm, q⟩ := h
  unfold mLc2 at hm
  obtain ⟨⟨ds, w1⟩, h1, hm⟩ := Option.bind_eq_some_iff.mp hm
  obtain ⟨⟨rs, w2⟩, h2, hm⟩ := Option.bind_eq_some_iff.mp hm
  obtain ⟨hl, hm⟩ := ite_some hm
  cases hm
  refine ⟨F, Ω, S, w, w1, ds, R, h1, fun J H1 R1 e1 wk => lc2_walk ko R1 wk h2 hl fun D H' hD R' ev ho => q D H' R' (e1.trans ev) ?_ ho⟩
  cases q0 : H D with
  | none => rfl
  | some o =>
    by_cases hz : F.st = some D
    · exact absurd hD (R1.dom D (R1.stΨ hz).2)
    · rw [e1 D o q0 hz] at hD; cases hD
theorem df_lc2 {vs1 : List Nat} (hc : X.calm = true) (hN : X.N.Nodup) (hi : DI β z .top X tg iter m0) (ok : BlkOk X.N X.env.scope scope own) (ko : KeepOwn p) (hv : ∀ i ∈ vs1, i ∈ own.map (·.2))
    (hg : ∀ (s : Shared) (H : Hp) (C : Addr) (cl : List (Str × Addr)) (fp : List Addr), DG β z (own.map (·.2)) (X.blk s H scope (compEnvC scope cl C X.env) fp) tg p) (ht : ∀ (s : Shared) (H : Hp) (C : Addr) (cl : List (Str × Addr)) (fp : List Addr), DTs β (X.blk s H scope (compEnvC scope cl C X.env) fp) ifs mt)
    (hi1 : ∀ (s : Shared) (H : Hp) (C : Addr) (cl : List (Str × Addr)) (fp : List Addr), DI β z1 .esc (X.blk s H scope (compEnvC scope cl C X.env) fp) tg1 iter1 mi)
    (hg1 : ∀ (s : Shared) (H : Hp) (C : Addr) (cl : List (Str × Addr)) (fp : List Addr), DG β z1 vs1 (X.blk s H scope (compEnvC scope cl C X.env) fp) tg1 p1) (ht1 : ∀ (s : Shared) (H : Hp) (C : Addr) (cl : List (Str × Addr)) (fp : List Addr), DTs β (X.blk s H scope (compEnvC scope cl C X.env) fp) ifs1 mt1)
    (he : ∀ (s : Shared) (H : Hp) (C : Addr) (cl : List (Str × Addr)) (fp : List Addr), DE β .esc (X.blk s H scope (compEnvC scope cl C X.env) fp) elt me) (hs : ∀ x, foldedSetIterable iter X.env x = pure x := by intro _; rfl) (hs1 : ∀ env x, foldedSetIterable iter1 env x = pure x := by intro _ _; rfl) :
    DF β X (.ListComp elt [⟨tg, iter, ifs, 0⟩, ⟨tg1, iter1, ifs1, 0⟩] scope pos) (mLc2 m0 p mt mi p1 mt1 me (own.map (·.2)) vs1) :=
  pe_imp (pe_lc2 hc hN hi ok hv hg ht hi1 hg1 ht1 he hs hs1) fun _ _ _ h => lc2_fr ko h
theorem de_lc2 {vs1 : List Nat} (hc : X.calm = true) (hN : X.N.Nodup) (hi : DI β z .top X tg iter m0) (ok : BlkOk X.N X.env.scope scope own) (ko : KeepOwn p) (hv : ∀ i ∈ vs1, i ∈ own.map (·.2))
    (hg : ∀ (s : Shared) (H : Hp) (C : Addr) (cl : List (Str × Addr)) (fp : List Addr), DG β z (own.map (·.2)) (X.blk s H scope (compEnvC scope cl C X.env) fp) tg p) (ht : ∀ (s : Shared) (H : Hp) (C : Addr) (cl : List (Str × Addr)) (fp : List Addr), DTs β (X.blk s H scope (compEnvC scope cl C X.env) fp) ifs mt)
    (hi1 : ∀ (s : Shared) (H : Hp) (C : Addr) (cl : List (Str × Addr)) (fp : List Addr), DI β z1 .esc (X.blk s H scope (compEnvC scope cl C X.env) fp) tg1 iter1 mi)
    (hg1 : ∀ (s : Shared) (H : Hp) (C : Addr) (cl : List (Str × Addr)) (fp : List Addr), DG β z1 vs1 (X.blk s H scope (compEnvC scope cl C X.env) fp) tg1 p1) (ht1 : ∀ (s : Shared) (H : Hp) (C : Addr) (cl : List (Str × Addr)) (fp : List Addr), DTs β (X.blk s H scope (compEnvC scope cl C X.env) fp) ifs1 mt1)
    (he : ∀ (s : Shared) (H : Hp) (C : Addr) (cl : List (Str × Addr)) (fp : List Addr), DE β .esc (X.blk s H scope (compEnvC scope cl C X.env) fp) elt me) (hs : ∀ x, foldedSetIterable iter X.env x = pure x := by intro _; rfl) (hs1 : ∀ env x, foldedSetIterable iter1 env x = pure x := by intro _ _; rfl) :
    DE β .esc X (.ListComp elt [⟨tg, iter, ifs, 0⟩, ⟨tg1, iter1, ifs1, 0⟩] scope pos) (mLc2 m0 p mt mi p1 mt1 me (own.map (·.2)) vs1) :=
  de_of_fr (df_lc2 hc hN hi ok ko hv hg ht hi1 hg1 ht1 he hs hs1)
theorem ds_lc2 {i : Nat} {y : Str} {vs1 : List Nat} {py spos : Pos} (hc : X.calm = true) (hN : X.N.Nodup) (hy : X.N[i]? = some y) (hyl : X.env.scope.names.lookup y = some .local)
    (hsw : swapsWith (.ListComp elt [⟨tg, iter, ifs, 0⟩, ⟨tg1, iter1, ifs1, 0⟩] scope pos) (some (.Name y py)) spos.line X.env = pure true) (hi : DI β z .top X tg iter m0) (ok : BlkOk X.N X.env.scope scope own) (ko : KeepOwn p) (hv : ∀ i ∈ vs1, i ∈ own.map (·.2))
    (hg : ∀ (s : Shared) (H : Hp) (C : Addr) (cl : List (Str × Addr)) (fp : List Addr), DG β z (own.map (·.2)) (X.blk s H scope (compEnvC scope cl C X.env) fp) tg p) (ht : ∀ (s : Shared) (H : Hp) (C : Addr) (cl : List (Str × Addr)) (fp : List Addr), DTs β (X.blk s H scope (compEnvC scope cl C X.env) fp) ifs mt)
    (hi1 : ∀ (s : Shared) (H : Hp) (C : Addr) (cl : List (Str × Addr)) (fp : List Addr), DI β z1 .esc (X.blk s H scope (compEnvC scope cl C X.env) fp) tg1 iter1 mi)
    (hg1 : ∀ (s : Shared) (H : Hp) (C : Addr) (cl : List (Str × Addr)) (fp : List Addr), DG β z1 vs1 (X.blk s H scope (compEnvC scope cl C X.env) fp) tg1 p1) (ht1 : ∀ (s : Shared) (H : Hp) (C : Addr) (cl : List (Str × Addr)) (fp : List Addr), DTs β (X.blk s H scope (compEnvC scope cl C X.env) fp) ifs1 mt1)
    (he : ∀ (s : Shared) (H : Hp) (C : Addr) (cl : List (Str × Addr)) (fp : List Addr), DE β .esc (X.blk s H scope (compEnvC scope cl C X.env) fp) elt me) (hs : ∀ x, foldedSetIterable iter X.env x = pure x := by intro _; rfl) (hs1 : ∀ env x, foldedSetIterable iter1 env x = pure x := by intro _ _; rfl) :
    DS β X (.Assign [.Name y py] (.ListComp elt [⟨tg, iter, ifs, 0⟩, ⟨tg1, iter1, ifs1, 0⟩] scope pos) spos) (sAsg (mLc2 m0 p mt mi p1 mt1 me (own.map (·.2)) vs1) (pName i)) := ps_imp (ps_setLc2 hc hN hy hyl hsw hi ok hv hg ht hi1 hg1 ht1 he hs hs1) fun D σ H ⟨F, Ω, S, w, fl, S', w', R, hm, q⟩ => by
  unfold sAsg at hm
  obtain ⟨⟨d, w1⟩, h1, hm⟩ := Option.bind_eq_some_iff.mp hm
  obtain ⟨S1, h2, hm⟩ := Option.map_eq_some_iff.mp hm
  cases hm
  cases h2
  refine lc2_fr ko ⟨F, Ω, S, w, _, d, R, h1, fun a H1 R1 e1 hn ho => ?_⟩
  exact q _ H1 Ω (R1.setVal i (ho.dv fun z => R.dom a z hn)) (R.grow e1)

/-! ### list(range(n)) -/
def dLstRg : PyData → Option PyData
  | .int n => if -1000000 ≤ n ∧ n ≤ 1000000 then some (.list (rngD 0 1 n.toNat)) else none
  | _ => none
theorem rg_dv {Ω : AS} {H : Hp} {n : Int} : DvA β Ω H (rgV 0 n) (rngD 0 1 n.toNat) := by
  have e1 : rgV 0 n = ((List.range n.toNat).map fun k => (0 : Int) + (k : Nat) * 1).map V.int := by
    unfold rgV; rw [List.map_map, Int.sub_zero]
    exact List.map_congr_left fun k _ => by simp
  have e2 : rngD 0 1 n.toNat = ((List.range n.toNat).map fun k => (0 : Int) + (k : Nat) * 1).map .int := by
    unfold rngD; rw [List.map_map]; rfl
  rw [e1, e2]
  exact DvA.ofInts _
theorem df_listRg {a : Expr} {p pos p2 pos2 : Pos} {m : ME} {r : Strg} (hc : X.calm = true) (hg : Gl X "list") (hm : X.mg "list" = none) (hg2 : Gl X "range") (hm2 : X.mg "range" = none) (ha : DE β r X a m)
    (na : starEach [a] X.env = (false, eval a X.env) :: starEach [] X.env := by rfl) (nb : starEach [.Call (.Name "range" p2) [a] [] pos2] X.env = (false, eval (.Call (.Name "range" p2) [a] [] pos2) X.env) :: starEach [] X.env := by rfl) :
    DF β X (.Call (.Name "list" p) [.Call (.Name "range" p2) [a] [] pos2] [] pos) (m1 dLstRg m) := pe_imp (pe_listRg hc hg hm (prg_1 hg2 hm2 ha na) nb) fun σ H Q ⟨F, Ω, S, w, w', d, R, hm, q⟩ => by
  unfold m1 at hm
  obtain ⟨⟨x, w1⟩, h1, hm⟩ := Option.bind_eq_some_iff.mp hm
  obtain ⟨y, h2, hm⟩ := Option.map_eq_some_iff.mp hm
  cases hm
  cases x with
  | int n =>
    obtain ⟨⟨b1, b2⟩, h2⟩ := ite_some h2
    cases h2
    refine ⟨F, Ω, S, w, _, .int n, R, h1, fun v H1 R1 e1 hv => ⟨n, hv.int_inv, ⟨by omega, by omega, by omega, by omega, by omega⟩, fun q1 hq => ?_⟩⟩
    have hl : (rngD 0 1 n.toNat).length ≤ LB := by rw [rngD_len]; show n.toNat ≤ 1000000; omega
    obtain ⟨e2, ow⟩ := new_own R1 rg_dv hl hq
    exact q q1 _ (R1.ex e2) (e1.trans e2.evs) (none_back R1 e1 hq) ow
  | _ => cases h2
theorem de_listRg {a : Expr} {p pos p2 pos2 : Pos} {m : ME} {r : Strg} (hc : X.calm = true) (hg : Gl X "list") (hm : X.mg "list" = none) (hg2 : Gl X "range") (hm2 : X.mg "range" = none) (ha : DE β r X a m)
    (na : starEach [a] X.env = (false, eval a X.env) :: starEach [] X.env := by rfl) (nb : starEach [.Call (.Name "range" p2) [a] [] pos2] X.env = (false, eval (.Call (.Name "range" p2) [a] [] pos2) X.env) :: starEach [] X.env := by rfl) :
    DE β .esc X (.Call (.Name "list" p) [.Call (.Name "range" p2) [a] [] pos2] [] pos) (m1 dLstRg m) := de_of_fr (df_listRg hc hg hm hg2 hm2 ha na nb)
end
end Mini

set_option Elab.async false
set_option linter.all false
set_option maxRecDepth 100000
set_option maxHeartbeats 4000000
/-! Mini S: in, not in (lists and tuples of plain data), index of a list of ints. -/
namespace Mini
open PySem PySem.Spec PyProof.Rows L2

def anyB (xs : List PyData) (d : PyData) : Bool := xs.any fun y => PyData.eqv y d
def dInB (neg : Bool) (d c : PyData) : Option PyData := (seqOf c).bind fun xs => if xs.all (shp 8) = true ∧ shp 8 d = true then some (.bool (neg != anyB xs d)) else none
abbrev dIn := dInB false
abbrev dNotIn := dInB true
def rInP (K : PySem.W.Frag) (neg : Bool) : R2 := fun x y H Q => ∃ d xs, Dp K H x d ∧ (Dp K H y (.list xs) ∨ Dp K H y (.tuple xs)) ∧ xs.all (shp 8) = true ∧ shp 8 d = true ∧ Q (.bl (neg != anyB xs d)) H
section
variable {β : Bool} {X : Cx} {ra rb : Strg} {a b : Expr} {ma mb : ME} {k : Nat} {pos : Pos}
theorem opr_in (hu : X.A.units + 64 < cLine) : OpR X (compareOp .In) (rInP X.K false) := by
  intro pins s σ H x y v u Q I rx ry ⟨d, xs, hd, he, sx, sd, q⟩
  obtain ⟨as, r1⟩ := Dp.reads I d x v hd rx
  obtain ⟨p1, z1⟩ := shp_all sx
  obtain ⟨p2, z2⟩ := shp_plain 8 d sd
  have q' : Q (.bl (anyB xs d)) H := by simpa using q
  rcases he with he | he
  · obtain ⟨bs, r2⟩ := Dp.reads I _ y u he ry
    exact SeqAt.in_list_data r2 r1 p1 p2 (by omega) ⟨.bl _, H, I, rfl, q'⟩
  · obtain ⟨bs, r2⟩ := Dp.reads I _ y u he ry
    exact SeqAt.in_tuple_data r2 r1 p1 p2 (by omega) ⟨.bl _, H, I, rfl, q'⟩
theorem opr_notin (hu : X.A.units + 64 < cLine) : OpR X (compareOp .NotIn) (rInP X.K true) := by
  intro pins s σ H x y v u Q I rx ry ⟨d, xs, hd, he, sx, sd, q⟩
  obtain ⟨as, r1⟩ := Dp.reads I d x v hd rx
  obtain ⟨p1, z1⟩ := shp_all sx
  obtain ⟨p2, z2⟩ := shp_plain 8 d sd
  have q' : Q (.bl (!anyB xs d)) H := by simpa using q
  rcases he with he | he
  · obtain ⟨bs, r2⟩ := Dp.reads I _ y u he ry
    exact SeqAt.notIn_list_data r2 r1 p1 p2 (by omega) ⟨.bl _, H, I, rfl, q'⟩
  · obtain ⟨bs, r2⟩ := Dp.reads I _ y u he ry
    exact SeqAt.notIn_tuple_data r2 r1 p1 p2 (by omega) ⟨.bl _, H, I, rfl, q'⟩
theorem op_in' {K : PySem.W.Frag} {neg : Bool} : Op2 β ra rb (rInP K neg) (dInB neg) := by
  intro F H Ω σ S w x y dx dy d Q R hx hy hg q
  obtain ⟨xs, h0, hg⟩ := Option.bind_eq_some_iff.mp hg
  obtain ⟨⟨h1, h2⟩, rfl⟩ := ite_some hg
  refine ⟨dx, xs, hx.dp h2, ?_, h1, h2, q _ H (Ext.refl H) (.bl _)⟩
  rcases seqOf_inv h0 with e | e
  · subst e; exact .inl (hy.dp (n := 9) h1)
  · subst e; exact .inr (hy.dp (n := 9) h1)
theorem de_in (hr : Room k X.A) (ha : DE β ra X a ma) (hb : DE β rb X b mb) (hm : behindInMarks .In b = false := by rfl) : DE β .esc X (.Compare a [.In] [b] pos) (m2 dIn ma mb) := de_cmp (opr_in hr.units) op_in' ha hb hm
theorem de_notin (hr : Room k X.A) (ha : DE β ra X a ma) (hb : DE β rb X b mb) (hm : behindInMarks .NotIn b = false := by rfl) : DE β .esc X (.Compare a [.NotIn] [b] pos) (m2 dNotIn ma mb) := de_cmp (opr_notin hr.units) op_in' ha hb hm
theorem dt_in (hr : Room k X.A) (ha : DE β ra X a ma) (hb : DE β rb X b mb) (hm : behindInMarks .In b = false := by rfl) : DT β X (.Compare a [.In] [b] pos) (mB (m2 dIn ma mb)) := dt_cmp (opr_in hr.units) op_in' ha hb hm
theorem dt_notin (hr : Room k X.A) (ha : DE β ra X a ma) (hb : DE β rb X b mb) (hm : behindInMarks .NotIn b = false := by rfl) : DT β X (.Compare a [.NotIn] [b] pos) (mB (m2 dNotIn ma mb)) := dt_cmp (opr_notin hr.units) op_in' ha hb hm
/-! ### l.index(x), ints -/
def dLidx : PyData → PyData → Option PyData
  | .list xs, .int k => (intsOf xs).bind fun ns => if k ∈ ns then some (.int (ns.idxOf k : Nat)) else none
  | _, _ => none
theorem de_lindex {o e : Expr} {mo me : ME} {ro re : Strg} {apos cpos : Pos} (ho : DE β ro X o mo) (he : DE β re X e me)
    (hbase : attributeBase o "index" X.env (eval o X.env) = eval o X.env := by rfl)
    (hfew : ((backTo cpos (starEach [e] X.env)).all (fun x => !x.1) && (backToKw cpos (keywordEach [] X.env)).all (fun x => x.1.isSome) && decide ([e].length + ([] : List Keyword).length + (if ([] : List Keyword).isEmpty then 0 else 1) < 30)) = true := by rfl)
    (hline : (apos.endLine == cpos.line) = true := by rfl) (hs : starEach [e] X.env = (false, eval e X.env) :: starEach [] X.env := by rfl) :
    DE β .esc X (.Call (.Attribute o "index" apos) [e] [] cpos) (m2 dLidx mo me) := by
  refine pe_imp (pe_bm PySem.F.plainAttrs_list PySem.F.slot_list_index PySem.F.type_list_index mt_index ho (da_cons he da_nil hs) hbase hfew hline hs (by rfl)) fun σ H Q ⟨F, Ω, S, w, w', d, R, hm, q⟩ => ?_
  unfold m2 at hm
  obtain ⟨⟨dx, w1⟩, h1, hm⟩ := Option.bind_eq_some_iff.mp hm
  obtain ⟨⟨dy, w2⟩, h2, hm⟩ := Option.bind_eq_some_iff.mp hm
  obtain ⟨d', h3, hm⟩ := Option.map_eq_some_iff.mp hm
  cases hm
  cases dx with
  | list xs =>
    cases dy with
    | int k =>
      obtain ⟨ns, h4, h3⟩ := Option.bind_eq_some_iff.mp (show (intsOf xs).bind _ = some d from h3)
      obtain ⟨h5, rfl⟩ := ite_some h3
      have h6 := intsOf_inv h4
      subst h6
      refine ⟨F, Ω, S, w, w1, .list (ns.map .int), R, h1, fun x H1 R1 e1 hx => ?_⟩
      obtain ⟨a, vs, ex, t1, t2, t3⟩ := hx.lst_inv
      subst ex
      have e3 := t3.ints
      subst e3
      refine ⟨.inl ⟨rfl, _, SqL.of t1⟩, F, Ω, S, w1, w2, [.int k], R1, by unfold mCons mNil; rw [h2]; rfl, fun ys H2 R2 e2 hy => ?_⟩
      obtain ⟨y, rfl, hy1⟩ := hy.one
      have e4 := hy1.int_inv
      subst e4
      have hx2 := hx.mono R1 e2
      obtain ⟨a', vs', ex', t1', t2', t3'⟩ := hx2.lst_inv
      cases ex'
      have e5 := t3'.ints
      subst e5
      have hlt : ns.idxOf k < ns.length := List.idxOf_lt_length_of_mem h5
      refine ⟨_, ns.map V.int, .int k, ns.idxOf k, .int k, rfl, rfl, SqL.of t1', rfl, ?_, ?_, ?_, fun m z' hm hz => ?_, q _ H2 R2 (e1.trans e2) (Dv.int _)⟩
      · rw [List.all_map]; exact List.all_eq_true.mpr fun _ _ => rfl
      · rw [List.getElem?_map, List.getElem?_eq_getElem hlt, List.getElem_idxOf]; rfl
      · simp [eqV]
      · rw [List.getElem?_map] at hz
        obtain ⟨n, hn, rfl⟩ := Option.map_eq_some_iff.mp hz
        show (n == k) = false
        obtain ⟨hm', hn'⟩ := List.getElem?_eq_some_iff.mp hn
        have := List.not_of_lt_findIdx (p := fun x => x == k) (xs := ns) (i := m) hm
        rw [hn'] at this
        simpa using this
    | _ => cases h3
  | _ => cases h3
end
end Mini

set_option Elab.async false
set_option linter.all false
set_option maxRecDepth 100000
set_option maxHeartbeats 4000000
/-! Mini U: enumerate over a tuple; zip of a tuple and a list. -/
namespace MiniU
open PySem PySem.Spec PyProof.Rows L2
open AutoSeq1 (wpAny_loadPart')
theorem drawsTup {P : Program} {w : World} {A : Around} (hh : A.handled = none) (it a : Addr) (hne : a ≠ it) (us : Array Value) :
    Draws P w A it [it, a] us.size (fun i v => us[i]? = some v) (fun i h => h.IsTupleIter it a i ∧ h.IsTuple a us) where
  live := fun _ _ ⟨⟨o, ho, _⟩, _⟩ => ⟨o, ho⟩
  frame := fun _ _ _ ⟨k1, k2⟩ hk => ⟨k1.at fun o e => hk it List.mem_cons_self o e, k2.at fun o e => hk a (List.mem_cons_of_mem _ List.mem_cons_self) o e⟩
  item := fun i s Q E hi ⟨k1, k2⟩ hQ => RZ.nextOf_tuple_item k1 k2 (x := us[i]) (Array.getElem?_eq_getElem hi) fun g g1 g2 => hQ _ g s.toks (Array.getElem?_eq_getElem hi) ⟨g1, k2.extBut g2.extBut hne⟩ g2
  done := fun s Q E ⟨k1, k2⟩ hE => RZ.nextOf_tuple_end hh k1 k2 (Array.getElem?_eq_none (Nat.le_refl _)) hE
theorem meets_enumT (a : Addr) (us : Array Value) (n : Nat) (dc : Option Addr) (sl : Array (Option Value)) :
    Meets (Builtin.«enumerate.__new__» ⟨[.type "enumerate", .ref a], []⟩) (fun _ R s => s.heap.get? a = some { cls := .type "tuple", dict := dc, data := .seq us n, slots := sl } ∧
      R (.ok (.ret (.ref (s.heap.push { cls := .type "tuple_iterator", data := .fields #[.ref a, .int 0 0] }).objs.size)))
        { s with heap := (s.heap.push { cls := .type "tuple_iterator", data := .fields #[.ref a, .int 0 0] }).push { cls := .type "enumerate", data := .fields #[.none, .bool false, .ref s.heap.objs.size, rawInt 0, .none, .none] } }) :=
  .of_wp fun P w A R s hs => by
    obtain ⟨hp, g, d, tk, os⟩ := s; obtain ⟨ha, hs⟩ := hs
    have sub := sub_enumerate
    have tu : Heap.IsTuple (Shared.heap ⟨hp, g, d, tk, os⟩) a us := ⟨_, ha, rfl, n, rfl⟩
    wp_walk using wpAny_loadPart' ha
    refine wpAny_stack_any fun z => wpAny_pure ?_
    split
    · rename_i c _ _ _ _ _
      cases (c == Value.type "enumerate")
      all_goals
        wp_walk using wpAny_loadPart' ha, wpAny_pyIter_tuple tu
        exact ⟨_, rfl, hs⟩
    · wp_walk using wpAny_loadPart' ha, wpAny_pyIter_tuple tu
      exact ⟨_, rfl, hs⟩
section
variable {P : Program} {w : World} {A : Around} {E : Value → Shared → Prop} {s : Shared}
theorem call_enumT {a : Addr} {us : Array Value} {Q : Value → Shared → Prop} (ht : s.heap.IsTuple a us)
    (k : ∀ g, IsEnum g (s.heap.objs.size + 1) s.heap.objs.size 0 .none → g.IsTupleIter s.heap.objs.size a 0 → (∀ b o, s.heap.get? b = some o → g.get? b = some o) → Q (.ref (s.heap.objs.size + 1)) { s with heap := g }) :
    wpAny (model P w) A (call (.type "enumerate") [.ref a]) Q E s := by
  obtain ⟨⟨c, dc, dt, sl⟩, ha, hc, n, hd⟩ := ht
  replace hc : c = .type "tuple" := hc
  replace hd : dt = .seq us n := hd
  subst hc hd
  refine callType_new F.called_enumerate (by decide) (F.typeCall_enumerate_1 _) (F.newCall_enumerate_1 _) (fun ob => F.args_object_init_2 ob _) F.entry_enumerate_new (meets_enumT a us n dc sl) ⟨ha, ?_⟩
  have z1 : (s.heap.push { cls := .type "tuple_iterator", data := .fields #[.ref a, .int 0 0] }).objs.size = s.heap.objs.size + 1 := Heap.size_push ..
  show _ ∧ _
  rw [z1]
  have g1 : IsEnum ((s.heap.push { cls := .type "tuple_iterator", data := .fields #[.ref a, .int 0 0] }).push
      { cls := .type "enumerate", data := .fields #[.none, .bool false, .ref s.heap.objs.size, rawInt 0, .none, .none] }) (s.heap.objs.size + 1) s.heap.objs.size 0 .none := by
    have q := Heap.get?_push_size (s.heap.push { cls := .type "tuple_iterator", data := .fields #[.ref a, .int 0 0] })
      (o := { cls := .type "enumerate", data := .fields #[.none, .bool false, .ref s.heap.objs.size, rawInt 0, .none, .none] }) rfl
    rw [z1] at q; exact q
  exact ⟨⟨_, g1, rfl⟩, k _ g1 ⟨_, Heap.get?_push_of_some _ (Heap.get?_push_size _ rfl), rfl, rfl⟩ fun b o x => Heap.get?_push_of_some _ (Heap.get?_push_of_some _ x)⟩
end
/-- the tuple's items, each in a new pair -/
def IteT (K : PySem.W.Frag) (a : Addr) : It :=
  ⟨fun i H => ∃ (xs : List V) (x : V), SqT K H a xs ∧ xs[i]? = some x, fun i H v H' => ∃ T x, v = .ref T ∧ H T = none ∧ H' = upd H T (.tup [.int (i : Nat), x]) ∧ ∀ xs, SqT K H a xs → xs[i]? = some x, fun i H => ∃ xs : List V, SqT K H a xs ∧ xs.length ≤ i⟩
theorem turn_enumT {P : Program} {w : World} {K : PySem.W.Frag} {es : List Expr} {kk : Nat} {tp : Pos} (a e it : Addr) (us : Array Value) :
    Turn P w K (.Tuple es kk tp) (IteT K a) [e, it] e (fun i h => (∃ old, IsEnum h e it ((i : Nat) : Int) old) ∧ h.IsTupleIter it a i ∧ e ≠ it) where
  mem := List.mem_cons_self
  obj := fun i h ⟨⟨old, k1⟩, ⟨o, k2, _, k3⟩, _⟩ b hb => by
    rcases List.mem_cons.mp hb with z | z
    · rw [z]; exact ⟨_, k1, fun v q => nomatch q⟩
    · rw [List.mem_singleton.mp z]; exact ⟨o, k2, fun v q => by rw [k3] at q; cases q⟩
  keep := fun i h h' ⟨⟨old, k1⟩, k2, k3⟩ k => ⟨⟨old, k e List.mem_cons_self _ k1⟩, k2.at fun o q => k it (List.mem_cons_of_mem _ List.mem_cons_self) o q, k3⟩
  item := by
    intro X hP hw hK hc i pins s σ H E I hf st hg
    subst hP hw hK
    obtain ⟨⟨old, k1⟩, k2, k3⟩ := st
    obtain ⟨xs, x, hq, hx⟩ := hg
    obtain ⟨its, rv, p, hz⟩ := I.tuple hq
    obtain ⟨u, hu, ru⟩ := rv.get hx
    have ll := rv.length
    have el : e < s.heap.objs.size := Heap.lt_size k1
    have il : it < s.heap.objs.size := by obtain ⟨_, q, _⟩ := k2; exact Heap.lt_size q
    have tu : s.heap.IsTuple a its.toArray := p
    have ae : e ≠ a := fun z => by
      obtain ⟨o, q1, q2, _⟩ := tu
      rw [← z, k1] at q1
      cases q1
      exact absurd q2 (by simp)
    have ai : a ≠ it := fun z => by
      obtain ⟨o, q1, q2, _⟩ := tu
      obtain ⟨o', q3, q4, _⟩ := k2
      rw [z, q3] at q1
      cases q1
      rw [q4] at q2
      exact absurd q2 (by simp)
    have hi : i < its.toArray.size := by
      have := (List.getElem?_eq_some_iff.mp hx).1
      rw [List.size_toArray]; omega
    refine wpAny_pyNext_enum_itemD (drawsTup (A := X.A.in1) (I.ok.hd hc) it a ai its.toArray) k1 ⟨k2, tu⟩ hi k3 (by simp [k3, ae]) fun v g tk hv ho hit hT hsz hk => ?_
    have ev : v = u := by
      have : its.toArray[i]? = some u := by simpa using hu
      rw [this] at hv
      exact (Option.some.inj hv).symm
    subst ev
    refine ⟨_, rfl, wpAny_letOwnedTupleGo_enum (s := { s with heap := g, toks := tk + 1 }) ho fun g2 he2 sb => ?_⟩
    have hT2 : g2.get? s.heap.objs.size = some { cls := .type "tuple", data := .seq #[.int i tk, v] } := (sb.2 _ (Nat.ne_of_gt el)).trans hT
    have new : ObjOk X.prog X.w (upd H s.heap.objs.size (.tup [.int (i : Nat), x])) g2 s.heap.objs.size (.tup [.int (i : Nat), x]) :=
      ⟨by show 2 ≤ sizeLine; decide, [.int i tk, v], .cons ⟨_, rfl⟩ (.cons ru .nil), ⟨_, hT2, rfl, _, rfl⟩⟩
    have I1 : Inv X pins σ (upd H s.heap.objs.size (.tup [.int (i : Nat), x])) { s with heap := g2, toks := tk + 1 } :=
      I.turnedNew (ch := [e, it]) (fun b ob hb q => by
        have n1 : b ≠ e := fun z => hb (by rw [z]; exact List.mem_cons_self)
        have n2 : b ≠ it := fun z => hb (by rw [z]; exact List.mem_cons_of_mem _ List.mem_cons_self)
        exact (sb.2 b n1).trans (hk b ob n1 n2 q)) hf (Nat.le_refl _) new
    refine ⟨.ref s.heap.objs.size, _, I1, rfl, ⟨_, x, rfl, I.hok.fresh (Nat.le_refl _), rfl, fun ys hy => by rw [I.tuple_inj hy hq]; exact hx⟩, ⟨⟨v, ?_⟩, hit.1.at fun o q => (sb.2 it (Ne.symm k3)).trans q, k3⟩, fun b hb => ?_⟩
    · rw [show ((i + 1 : Nat) : Int) = (i : Int) + 1 from by omega]
      exact he2
    · have lt : b < s.heap.objs.size := by
        rcases List.mem_cons.mp hb with z | z
        · rw [z]; exact el
        · rw [List.mem_singleton.mp z]; exact il
      rw [upd_ne (Nat.ne_of_lt lt)]
      exact (hf b hb).1
  done := by
    intro X hP hw hK hc i pins s σ H E I hf st hg
    subst hP hw hK
    obtain ⟨⟨old, k1⟩, k2, k3⟩ := st
    obtain ⟨xs, hq, hx⟩ := hg
    obtain ⟨its, rv, p, hz⟩ := I.tuple hq
    obtain ⟨f0, f1, f2, f3, f4, f5⟩ := hf it (List.mem_cons_of_mem _ List.mem_cons_self)
    have ll := rv.length
    have hd := I.ok.hd hc
    have tu : s.heap.IsTuple a its.toArray := p
    have hT : s.TypeIs (.ref e) "enumerate" := ⟨_, k1, rfl⟩
    unfold pyNext
    refine wpAny_bind (wpAny_attempt (wpAny_callSpecial?_slot (name := Str.ofString "__next__") hT F.slot_enumerate_next (wpAny_call_entry F.slot_enumerate_next hT F.entry_enumerate_next ?_ (F.args_enumerate_next_1 _))))
    show wpAny _ _ (field (.ref e) 2 >>= _) _ _ _
    refine wpAny_bind (wpAny_field k1 rfl (x := .ref it) rfl ?_)
    refine wpAny_bind (RZ.nextOf_tuple_end hd k2 tu (by simp; omega) fun g ex eb ho => ?_)
    obtain ⟨o, q1, q2⟩ := ho
    refine wpAny_bind (wpAny_isInstance (T := "StopIteration") (b := true) ⟨o, q1, q2⟩ isSubtype_stop ?_)
    exact wpAny_pure ⟨rfl, I.turned (t' := s.toks) (fun b o hb q => eb b o hb q) f0 f1 f3 f4 f5⟩
  self := fun A i s Q E ⟨⟨_, k1⟩, _⟩ h => wpAny_pyIter_enum k1 h
def iEnumT (K : PySem.W.Frag) (ta : TA) : TI := fun σ H R => ta σ H fun vs H1 => ∃ a xs, vs = [.ref a] ∧ SqT K H1 a xs ∧ R (IteT K a) H1
theorem pi_enumT {X : Cx} {e : Expr} {ta : TA} {p pos tp : Pos} {es : List Expr} {kk : Nat} (hg : Gl X "enumerate") (hm : X.mg "enumerate" = none) (ha : PA X [e] ta) (hs : starEach [e] X.env = [(false, eval e X.env)] := by rfl) :
    PI X (.Tuple es kk tp) (.Call (.Name "enumerate" p) [e] [] pos) (iEnumT X.K ta) := by
  refine ⟨fun pins s σ H R I h => ?_⟩
  refine Call_ (ld_blt I hg hm boot_enumerate (PyProof.Rows.callWith_type1 (thn (ha.run pos pins s σ H _ I h) fun us s1 ⟨vs, H1, I1, r1, q1⟩ => ?_) hs rfl))
  obtain ⟨a, xs, rfl, hq, q⟩ := q1
  obtain ⟨u, rfl, r⟩ := Vals.one r1
  cases r
  obtain ⟨its, rv, p', hz⟩ := I1.tuple hq
  refine call_enumT (us := its.toArray) p' fun g k1 k2 hk => wpAny_pyIter_enum k1 ?_
  have I2 : Inv X pins σ H1 { s1 with heap := g } := I1.kept (t' := s1.toks) hk
  refine ⟨s1.heap.objs.size + 1, [s1.heap.objs.size + 1, s1.heap.objs.size], _, _, H1, rfl, I2, turn_enumT a (s1.heap.objs.size + 1) s1.heap.objs.size its.toArray, ⟨⟨.none, k1⟩, k2, Nat.succ_ne_self _⟩, fun b hb => ?_, q⟩
  have le : s1.heap.objs.size ≤ b := by
    rcases List.mem_cons.mp hb with z | z
    · rw [z]; exact Nat.le_succ _
    · rw [List.mem_singleton.mp z]; exact Nat.le_refl _
  exact I1.fpOk le (I1.hok.fresh le)
end MiniU

set_option Elab.async false
set_option linter.all false
set_option maxRecDepth 100000
set_option maxHeartbeats 4000000
/-! Mini V: zip of a tuple and a list. -/
namespace MiniV
open PySem PySem.Spec PyProof.Rows L2
open PySem.Sem (wp)
section
variable {prog : Program} {w : World} {A : Around} {E : Value → Shared → Prop} {s : Shared}
theorem zq_next_item {z U O j1 j2 t1 t2 : Addr} {k1 k2 : Nat} {us vs : Array Value} {x y a b : Value} {Q : Value → Shared → Prop} (Z : ZipApart z U O j1 j2 t1 t2)
    (gz : IsZip s.heap z U O .none) (gI : IsPair s.heap U (.ref j1) (.ref j2)) (gO : IsPair s.heap O a b)
    (g1 : s.heap.IsTupleIter j1 t1 k1) (g2 : s.heap.IsListIter j2 t2 k2) (m1 : s.heap.IsTuple t1 us) (m2 : s.heap.IsList t2 vs) (gx : us[k1]? = some x) (gy : vs[k2]? = some y)
    (kQ : ∀ h', IsZip h' z U O (rawInt s.heap.objs.size) → IsPair h' O x y → h'.IsTupleIter j1 t1 (k1 + 1) → h'.IsListIter j2 t2 (k2 + 1) → IsPair h' s.heap.objs.size x y → h'.objs.size = s.heap.objs.size + 1 →
      (∀ c o, c ≠ z → c ≠ O → c ≠ j1 → c ≠ j2 → s.heap.get? c = some o → h'.get? c = some o) → Q (.ref s.heap.objs.size) { s with heap := h' }) :
    wpAny (model prog w) A (Builtin.«zip.__next__» ⟨[.ref z], []⟩) (fun fin s' => ∃ v, fin = .done (.ret v) ∧ Q v s') E s := by
  show wpAny (model _ _) _ (field (.ref z) 2 >>= _) _ _ _
  refine wpAny_bind (wpAny_field gz rfl (x := .bool false) rfl ?_)
  show wpAny (model _ _) _ (field (.ref z) 3 >>= _) _ _ _
  refine wpAny_bind (wpAny_field gz rfl (x := .ref U) rfl ?_)
  refine wpAny_bind (wpAny_seqItems gI rfl ?_)
  show wpAny (model _ _) _ (Builtin.SmallTypes.ownedTupleIsFree (.ref z) >>= _) _ _ _
  refine wpAny_bind ?_
  unfold Builtin.SmallTypes.ownedTupleIsFree
  refine wpAny_bind (wpAny_field gz rfl (x := .none) rfl (wpAny_pure ?_))
  simp only [if_true]
  refine wpAny_bind (wpAny_rule ?_)
  refine wpAny_bind (wpAny_field gz rfl (x := .ref O) rfl ?_)
  refine wpAny_bind (wpAny_setField_rec gz (by simp) fun ka za sa => ?_)
  replace za : IsZip ka z U O .ellipsis := za
  refine wpAny_bind ?_
  simp only [List.forIn_nil, List.forIn_cons, List.zipIdx_nil, List.zipIdx_cons]

  refine wpAny_bind <| wpAny_bind <| wpAny_onRaise ?_
  show wpAny (model _ _) _ (Builtin.SmallTypes.nextOf (.ref j1) >>= _) _ _ _
  refine wpAny_bind (RZ.nextOf_tuple_item (g1.extBut sa.extBut Z.i1z) (m1.extBut sa.extBut Z.l1z) gx fun kb pb sb1 => wpAny_pure ?_)
  have ob : IsPair kb O a b := sb1.extBut _ _ Z.TOi1 (sa.extBut _ _ Z.TOz gO)
  refine wpAny_bind (wpAny_seqItems ob rfl ?_)
  refine wpAny_bind (wpAny_updateSeq_pair ob fun kc oc sc => ?_)
  replace oc : IsPair kc O x b := oc
  refine wpAny_bind (wpAny_letGo (wpAny_pure ?_))

  refine wpAny_bind <| wpAny_bind <| wpAny_onRaise ?_
  show wpAny (model _ _) _ (Builtin.SmallTypes.nextOf (.ref j2) >>= _) _ _ _
  refine wpAny_bind (wpAny_nextOf_list_item (((g2.extBut sa.extBut Z.i2z).extBut sb1.extBut Z.i12.symm).extBut sc.extBut Z.TOi2.symm)
    (((m2.extBut sa.extBut Z.l2z).extBut sb1.extBut Z.l2i1).extBut sc.extBut Z.l2TO) gy fun kd qd sd => wpAny_pure ?_)
  have od : IsPair kd O x b := sd.extBut _ _ Z.TOi2 oc
  refine wpAny_bind (wpAny_seqItems od rfl ?_)
  refine wpAny_bind (wpAny_updateSeq_pair od fun ke oe1 se => ?_)
  replace oe1 : IsPair ke O x y := oe1
  refine wpAny_bind (wpAny_letGo (wpAny_pure (wpAny_pure ?_)))

  refine wpAny_bind (wpAny_seqItems oe1 rfl ?_)
  refine wpAny_bind (wpAny_newTuple ?_)
  have szq : ke.objs.size = s.heap.objs.size := by rw [se.1, sd.1, sc.1, sb1.1, sa.1]
  have ze : IsZip ke z U O .ellipsis := se.extBut _ _ Z.TOz.symm (sd.extBut _ _ Z.i2z.symm (sc.extBut _ _ Z.TOz.symm (sb1.extBut _ _ Z.i1z.symm za)))
  have ke5 : ∀ c o, c ≠ z → c ≠ O → c ≠ j1 → c ≠ j2 → s.heap.get? c = some o → ke.get? c = some o := fun c o c1 c2 c3 c4 e =>
    se.extBut _ _ c2 (sd.extBut _ _ c4 (sc.extBut _ _ c2 (sb1.extBut _ _ c3 (sa.extBut _ _ c1 e))))
  have pe5 : ke.IsTupleIter j1 t1 (k1 + 1) := ((pb.extBut sc.extBut Z.TOi1.symm).extBut sd.extBut Z.i12).extBut se.extBut Z.TOi1.symm
  have qe5 : ke.IsListIter j2 t2 (k2 + 1) := qd.extBut se.extBut Z.TOi2.symm
  have zlt : z < ke.objs.size := Heap.lt_size ze
  have olt : O < ke.objs.size := Heap.lt_size oe1
  have plt : j1 < ke.objs.size := by obtain ⟨_, e, _⟩ := pe5; exact Heap.lt_size e
  have qlt : j2 < ke.objs.size := by obtain ⟨_, e, _⟩ := qe5; exact Heap.lt_size e
  show wpAny (model _ _) _ (Builtin.SmallTypes.ownedTupleHandOut (.ref z) (.ref ke.objs.size) >>= _) _ _ _
  refine wpAny_bind ?_
  unfold Builtin.SmallTypes.ownedTupleHandOut
  have zf : IsZip (ke.push { cls := .type "tuple", data := .seq #[x, y] }) z U O .ellipsis := Heap.get?_push_of_some _ ze
  refine wpAny_bind (wpAny_setField_rec zf (by simp) fun kg zg sg => ?_)
  replace zg : IsZip kg z U O (rawInt ke.objs.size) := zg
  refine wpAny_setField_rec zg (by simp) fun kh zh sh => ?_
  replace zh : IsZip kh z U O (rawInt ke.objs.size) := zh
  have up : ∀ c o, c ≠ z → ke.get? c = some o → kh.get? c = some o := fun c o c1 e => sh.extBut _ _ c1 (sg.extBut _ _ c1 (Heap.get?_push_of_some _ e))
  have th8 : IsPair kh ke.objs.size x y := sh.extBut _ _ (Nat.ne_of_gt zlt) (sg.extBut _ _ (Nat.ne_of_gt zlt) (Heap.get?_push_size _ rfl))
  have z8 : kh.objs.size = ke.objs.size + 1 := by rw [sh.1, sg.1, Heap.size_push]
  rw [szq] at zh th8 z8
  refine wpAny_pure ⟨_, rfl, ?_⟩
  show Q (.ref ke.objs.size) _
  rw [szq]
  exact kQ kh zh (up _ _ Z.TOz oe1) (pe5.at fun o e => up _ o Z.i1z e) (qe5.at fun o e => up _ o Z.i2z e) th8 z8 fun c o c1 c2 c3 c4 e => up c o c1 (ke5 c o c1 c2 c3 c4 e)

theorem zq_next_end {z U O j1 j2 t1 t2 : Addr} {k1 k2 : Nat} {us vs : Array Value} {a b : Value} {Q : Fin → Shared → Prop} (hh : A.handled = none) (Z : ZipApart z U O j1 j2 t1 t2)
    (gz : IsZip s.heap z U O .none) (gI : IsPair s.heap U (.ref j1) (.ref j2)) (gO : IsPair s.heap O a b)
    (g1 : s.heap.IsTupleIter j1 t1 k1) (g2 : s.heap.IsListIter j2 t2 k2) (m1 : s.heap.IsTuple t1 us) (m2 : s.heap.IsList t2 vs) (gend : us[k1]? = none ∨ vs[k2]? = none)
    (kE : ∀ h' e, (∀ c o, c ≠ z → c ≠ O → c ≠ j1 → c ≠ j2 → s.heap.get? c = some o → h'.get? c = some o) → (∃ o, h'.get? e = some o ∧ o.cls = .type "StopIteration") → E (.ref e) { s with heap := h' }) :
    wpAny (model prog w) A (Builtin.«zip.__next__» ⟨[.ref z], []⟩) Q E s := by
  show wpAny (model _ _) _ (field (.ref z) 2 >>= _) _ _ _
  refine wpAny_bind (wpAny_field gz rfl (x := .bool false) rfl ?_)
  show wpAny (model _ _) _ (field (.ref z) 3 >>= _) _ _ _
  refine wpAny_bind (wpAny_field gz rfl (x := .ref U) rfl ?_)
  refine wpAny_bind (wpAny_seqItems gI rfl ?_)
  show wpAny (model _ _) _ (Builtin.SmallTypes.ownedTupleIsFree (.ref z) >>= _) _ _ _
  refine wpAny_bind ?_
  unfold Builtin.SmallTypes.ownedTupleIsFree
  refine wpAny_bind (wpAny_field gz rfl (x := .none) rfl (wpAny_pure ?_))
  simp only [if_true]
  refine wpAny_bind (wpAny_rule ?_)
  refine wpAny_bind (wpAny_field gz rfl (x := .ref O) rfl ?_)
  refine wpAny_bind (wpAny_setField_rec gz (by simp) fun ka za sa => ?_)
  replace za : IsZip ka z U O .ellipsis := za
  refine wpAny_bind ?_
  simp only [List.forIn_nil, List.forIn_cons, List.zipIdx_nil, List.zipIdx_cons]
  refine wpAny_bind <| wpAny_bind <| wpAny_onRaise ?_
  show wpAny (model _ _) _ (Builtin.SmallTypes.nextOf (.ref j1) >>= _) _ _ _
  cases gx : us[k1]? with
  | none =>
    refine wpAny_bind (RZ.nextOf_tuple_end hh (g1.extBut sa.extBut Z.i1z) (m1.extBut sa.extBut Z.l1z) gx fun kb e sb1 he => ?_)
    obtain ⟨oe, hoe, hce⟩ := he
    have zb : IsZip kb z U O .ellipsis := sb1 _ _ Z.i1z.symm za
    have hez : e ≠ z := fun x => by subst x; rw [zb] at hoe; cases hoe; simp at hce
    refine wpAny_setField_rec zb (by simp) fun kc _ sc => kE kc e (fun c o c1 _ c3 _ x => sc.extBut _ _ c1 (sb1 _ _ c3 (sa.extBut _ _ c1 x))) ⟨oe, sc.extBut _ _ hez hoe, hce⟩
  | some x =>
    have gy : vs[k2]? = none := by rcases gend with h | h; rw [gx] at h; cases h; exact h
    refine wpAny_bind (RZ.nextOf_tuple_item (g1.extBut sa.extBut Z.i1z) (m1.extBut sa.extBut Z.l1z) gx fun kb pb sb1 => wpAny_pure ?_)
    have ob : IsPair kb O a b := sb1.extBut _ _ Z.TOi1 (sa.extBut _ _ Z.TOz gO)
    refine wpAny_bind (wpAny_seqItems ob rfl ?_)
    refine wpAny_bind (wpAny_updateSeq_pair ob fun kc oc sc => ?_)
    refine wpAny_bind (wpAny_letGo (wpAny_pure ?_))
    refine wpAny_bind <| wpAny_bind <| wpAny_onRaise ?_
    show wpAny (model _ _) _ (Builtin.SmallTypes.nextOf (.ref j2) >>= _) _ _ _
    refine wpAny_bind (wpAny_nextOf_list_end hh (((g2.extBut sa.extBut Z.i2z).extBut sb1.extBut Z.i12.symm).extBut sc.extBut Z.TOi2.symm)
      (((m2.extBut sa.extBut Z.l2z).extBut sb1.extBut Z.l2i1).extBut sc.extBut Z.l2TO) gy fun kd e sd he => ?_)
    obtain ⟨oe, hoe, hce⟩ := he
    have zd : IsZip kd z U O .ellipsis := sd _ _ Z.i2z.symm (sc.extBut _ _ Z.TOz.symm (sb1.extBut _ _ Z.i1z.symm za))
    have hez : e ≠ z := fun x => by subst x; rw [zd] at hoe; cases hoe; simp at hce
    refine wpAny_setField_rec zd (by simp) fun ke _ se => kE ke e (fun c o c1 c2 c3 c4 x => se.extBut _ _ c1 (sd _ _ c4 (sc.extBut _ _ c2 (sb1.extBut _ _ c3 (sa.extBut _ _ c1 x))))) ⟨oe, se.extBut _ _ hez hoe, hce⟩

theorem pyNext_zq_item {z U O j1 j2 t1 t2 : Addr} {k1 k2 : Nat} {us vs : Array Value} {x y a b : Value} {Q : Option Value → Shared → Prop} (Z : ZipApart z U O j1 j2 t1 t2)
    (gz : IsZip s.heap z U O .none) (gI : IsPair s.heap U (.ref j1) (.ref j2)) (gO : IsPair s.heap O a b)
    (g1 : s.heap.IsTupleIter j1 t1 k1) (g2 : s.heap.IsListIter j2 t2 k2) (m1 : s.heap.IsTuple t1 us) (m2 : s.heap.IsList t2 vs) (gx : us[k1]? = some x) (gy : vs[k2]? = some y)
    (kQ : ∀ h', IsZip h' z U O (rawInt s.heap.objs.size) → IsPair h' O x y → h'.IsTupleIter j1 t1 (k1 + 1) → h'.IsListIter j2 t2 (k2 + 1) → IsPair h' s.heap.objs.size x y → h'.objs.size = s.heap.objs.size + 1 →
      (∀ c o, c ≠ z → c ≠ O → c ≠ j1 → c ≠ j2 → s.heap.get? c = some o → h'.get? c = some o) → Q (some (.ref s.heap.objs.size)) { s with heap := h' }) :
    wpAny (model prog w) A (pyNext (.ref z)) Q E s := by
  have hT : s.TypeIs (.ref z) "zip" := ⟨_, gz, rfl⟩
  unfold pyNext
  exact wpAny_bind (wpAny_attempt (wpAny_callSpecial?_slot (name := Str.ofString "__next__") hT F.slot_zip_next
    (wpAny_call_entry F.slot_zip_next hT F.entry_zip_next
      (zq_next_item Z gz gI gO g1 g2 m1 m2 gx gy fun h' a1 a2 a3 a4 a5 a6 a7 => wpAny_pure (kQ h' a1 a2 a3 a4 a5 a6 a7)) (F.args_zip_next_1 _))))

theorem pyNext_zq_end {z U O j1 j2 t1 t2 : Addr} {k1 k2 : Nat} {us vs : Array Value} {a b : Value} {Q : Option Value → Shared → Prop} (hh : A.handled = none) (Z : ZipApart z U O j1 j2 t1 t2)
    (gz : IsZip s.heap z U O .none) (gI : IsPair s.heap U (.ref j1) (.ref j2)) (gO : IsPair s.heap O a b)
    (g1 : s.heap.IsTupleIter j1 t1 k1) (g2 : s.heap.IsListIter j2 t2 k2) (m1 : s.heap.IsTuple t1 us) (m2 : s.heap.IsList t2 vs) (gend : us[k1]? = none ∨ vs[k2]? = none)
    (kQ : ∀ h', (∀ c o, c ≠ z → c ≠ O → c ≠ j1 → c ≠ j2 → s.heap.get? c = some o → h'.get? c = some o) → Q none { s with heap := h' }) : wpAny (model prog w) A (pyNext (.ref z)) Q E s := by
  have hT : s.TypeIs (.ref z) "zip" := ⟨_, gz, rfl⟩
  unfold pyNext
  refine wpAny_bind (wpAny_attempt (wpAny_callSpecial?_slot (name := Str.ofString "__next__") hT F.slot_zip_next
    (wpAny_call_entry F.slot_zip_next hT F.entry_zip_next (zq_next_end hh Z gz gI gO g1 g2 m1 m2 gend fun h' e hk he => ?_) (F.args_zip_next_1 _))))
  obtain ⟨o, ho, hc⟩ := he
  refine wpAny_bind (wpAny_isInstance (T := "StopIteration") (b := true) ⟨o, ho, hc⟩ isSubtype_stop ?_)
  exact wpAny_pure (kQ _ hk)
end

abbrev zqH1 (h : Heap) (t1 : Addr) : Heap := h.push { cls := .type "tuple_iterator", data := .fields #[.ref t1, .int 0 0] }
abbrev zqH2 (h : Heap) (t1 t2 : Addr) : Heap := (zqH1 h t1).push { cls := .type "list_iterator", data := .fields #[.ref t2, .int 0 0] }
abbrev zqH3 (h : Heap) (t1 t2 : Addr) : Heap := (zqH2 h t1 t2).push { cls := .type "tuple", data := .seq #[.ref h.objs.size, .ref (zqH1 h t1).objs.size] }
abbrev zqH4 (h : Heap) (t1 t2 : Addr) : Heap := (zqH3 h t1 t2).push { cls := .type "tuple", data := .seq #[.none, .none] }
abbrev zqH5 (h : Heap) (t1 t2 : Addr) : Heap := (zqH4 h t1 t2).push { cls := .type "zip", data := .fields #[.none, .bool false, .bool false, .ref (zqH2 h t1 t2).objs.size, .ref (zqH3 h t1 t2).objs.size] }

theorem meets_zq_new (t1 t2 : Addr) (us vs : Array Value) :
    Meets (Builtin.«zip.__new__» ⟨[.type "zip", .ref t1, .ref t2], []⟩) (fun _ R s => s.heap.IsTuple t1 us ∧ s.heap.IsList t2 vs ∧
      R (.ok (.ret (.ref (zqH4 s.heap t1 t2).objs.size))) { s with heap := zqH5 s.heap t1 t2 }) :=
  .of_wp fun prog w A R s h => by
    obtain ⟨hp, g, d, tk, os⟩ := s; obtain ⟨m1, m2, h⟩ := h
    have hsub := sub_zip
    have hL1 : Heap.IsTuple (Shared.heap ⟨hp, g, d, tk, os⟩) t1 us := m1
    have hL2 : Heap.IsList (Shared.heap ⟨hp.push { cls := .type "tuple_iterator", data := .fields #[.ref t1, .int 0 0] }, g, d, tk, os⟩) t2 vs := Heap.IsList.push m2 _
    wp_walk using wpAny_pyIter_tuple hL1, wpAny_pyIter_list hL2
    exact ⟨_, rfl, h⟩

section
variable {prog : Program} {w : World} {A : Around} {E : Value → Shared → Prop} {s : Shared}

theorem call_zq {t1 t2 : Addr} {us vs : Array Value} {Q : Value → Shared → Prop} (m1 : s.heap.IsTuple t1 us) (m2 : s.heap.IsList t2 vs)
    (h : ∀ h', IsZip h' (s.heap.objs.size + 4) (s.heap.objs.size + 2) (s.heap.objs.size + 3) .none → IsPair h' (s.heap.objs.size + 2) (.ref s.heap.objs.size) (.ref (s.heap.objs.size + 1)) →
      IsPair h' (s.heap.objs.size + 3) .none .none → h'.IsTupleIter s.heap.objs.size t1 0 → h'.IsListIter (s.heap.objs.size + 1) t2 0 → h'.objs.size = s.heap.objs.size + 5 →
      (∀ c o, s.heap.get? c = some o → h'.get? c = some o) → Q (.ref (s.heap.objs.size + 4)) { s with heap := h' }) :
    wpAny (model prog w) A (call (.type "zip") [.ref t1, .ref t2]) Q E s := by
  refine callType_new F.called_zip (by decide) (F.typeCall_zip_2 _ _) (F.newCall_zip_2 _ _) (fun obj => F.args_object_init_3 obj _ _) F.entry_zip_new
    (meets_zq_new t1 t2 us vs) ⟨m1, m2, ?_⟩
  have y1 : (zqH1 s.heap t1).objs.size = s.heap.objs.size + 1 := Heap.size_push ..
  have y2 : (zqH2 s.heap t1 t2).objs.size = s.heap.objs.size + 2 := by rw [Heap.size_push, y1]
  have y3 : (zqH3 s.heap t1 t2).objs.size = s.heap.objs.size + 3 := by rw [Heap.size_push, y2]
  have y4 : (zqH4 s.heap t1 t2).objs.size = s.heap.objs.size + 4 := by rw [Heap.size_push, y3]
  have y5 : (zqH5 s.heap t1 t2).objs.size = s.heap.objs.size + 5 := by rw [Heap.size_push, y4]
  have g5 : (zqH5 s.heap t1 t2).get? (zqH4 s.heap t1 t2).objs.size = some _ := Heap.get?_push_size _ rfl
  have g4 : (zqH5 s.heap t1 t2).get? (zqH3 s.heap t1 t2).objs.size = some _ := Heap.get?_push_of_some _ (Heap.get?_push_size _ rfl)
  have g3 : (zqH5 s.heap t1 t2).get? (zqH2 s.heap t1 t2).objs.size = some _ := Heap.get?_push_of_some _ (Heap.get?_push_of_some _ (Heap.get?_push_size _ rfl))
  have g2 : (zqH5 s.heap t1 t2).get? (zqH1 s.heap t1).objs.size = some _ := Heap.get?_push_of_some _ (Heap.get?_push_of_some _ (Heap.get?_push_of_some _ (Heap.get?_push_size _ rfl)))
  have g1 : (zqH5 s.heap t1 t2).get? s.heap.objs.size = some _ := Heap.get?_push_of_some _ (Heap.get?_push_of_some _ (Heap.get?_push_of_some _ (Heap.get?_push_of_some _ (Heap.get?_push_size _ rfl))))
  show _ ∧ _
  rw [y2, y3, y4] at g5
  rw [y1, y2] at g3
  rw [y3] at g4
  rw [y1] at g2
  rw [y4]
  exact ⟨⟨_, g5, rfl⟩, h _ g5 g3 g4 ⟨_, g1, rfl, rfl⟩ ⟨_, g2, rfl, rfl⟩ y5 fun c o x =>
    Heap.get?_push_of_some _ (Heap.get?_push_of_some _ (Heap.get?_push_of_some _ (Heap.get?_push_of_some _ (Heap.get?_push_of_some _ x))))⟩
end

/-- the tuples at a and b as they stand at each turn, the items in new pairs -/
def ItzQ (K : PySem.W.Frag) (a b : Addr) : It :=
  ⟨fun i H => ∃ (us vs : List V) (x y : V), SqT K H a us ∧ SqL K H b vs ∧ us[i]? = some x ∧ vs[i]? = some y,
    fun i H v H' => ∃ T x y, v = .ref T ∧ H T = none ∧ H' = upd H T (.tup [x, y]) ∧ (∀ us, SqT K H a us → us[i]? = some x) ∧ ∀ vs, SqL K H b vs → vs[i]? = some y,
    fun i H => ∃ us vs : List V, SqT K H a us ∧ SqL K H b vs ∧ (us.length ≤ i ∨ vs.length ≤ i)⟩
theorem turn_zq {P : Program} {w : World} {K : PySem.W.Frag} {es : List Expr} {kk : Nat} {tp : Pos} {a b z U O j1 j2 : Addr} (Z : ZipApart z U O j1 j2 a b) :
    Turn P w K (.Tuple es kk tp) (ItzQ K a b) [z, U, O, j1, j2] z (fun i h => IsZip h z U O .none ∧ IsPair h U (.ref j1) (.ref j2) ∧ (∃ x y, IsPair h O x y) ∧ h.IsTupleIter j1 a i ∧ h.IsListIter j2 b i) where
  mem := by simp
  obj := fun i h sg1 c hc => by
    obtain ⟨gz, gI, ⟨x, y, gO⟩, ⟨o1, e1, _, d1⟩, ⟨o2, e2, _, d2⟩⟩ := sg1
    have e' : c = z ∨ c = U ∨ c = O ∨ c = j1 ∨ c = j2 := by simpa using hc
    rcases e' with q | q | q | q | q
    · rw [q]; exact ⟨_, gz, fun v q => nomatch q⟩
    · rw [q]; exact ⟨_, gI, fun v q => nomatch q⟩
    · rw [q]; exact ⟨_, gO, fun v q => nomatch q⟩
    · rw [q]; exact ⟨o1, e1, fun v q => by rw [d1] at q; cases q⟩
    · rw [q]; exact ⟨o2, e2, fun v q => by rw [d2] at q; cases q⟩
  keep := fun i h h' sg1 k => by
    obtain ⟨gz, gI, ⟨x, y, gO⟩, g1, g2⟩ := sg1
    exact ⟨k z (by simp) _ gz, k U (by simp) _ gI, ⟨x, y, k O (by simp) _ gO⟩, g1.at fun o q => k j1 (by simp) o q, g2.at fun o q => k j2 (by simp) o q⟩
  item := by
    intro X hP hw hK hc i pins s σ H E I ff sg1 hg
    subst hP hw hK
    obtain ⟨gz, gI, ⟨x0, y0, gO⟩, g1, g2⟩ := sg1
    obtain ⟨us, vs, x, y, hqx, hqy, gx, gy⟩ := hg
    obtain ⟨its, rv, p, _⟩ := I.tuple hqx
    obtain ⟨its2, rv2, p2, _⟩ := I.list hqy
    obtain ⟨u, hu, ru⟩ := rv.get gx
    obtain ⟨u2, hu2, ru2⟩ := rv2.get gy
    have hzl : z < s.heap.objs.size := Heap.lt_size gz
    refine pyNext_zq_item Z gz gI gO g1 g2 p p2.isList (x := u) (y := u2) (by simpa using hu) (by simpa using hu2) fun h' z' TO' h1' h2' hT szq hk => ?_
    refine ⟨_, rfl, wpAny_letOwnedTupleGo_zip (s := { s with heap := h' }) z' fun h'' z'' sb => ?_⟩
    have hT2 : h''.get? s.heap.objs.size = some { cls := .type "tuple", data := .seq #[u, u2] } := (sb.2 _ (Nat.ne_of_gt hzl)).trans hT
    have new : ObjOk X.prog X.w (upd H s.heap.objs.size (.tup [x, y])) h'' s.heap.objs.size (.tup [x, y]) :=
      ⟨by show 2 ≤ sizeLine; decide, [u, u2], .cons ru (.cons ru2 .nil), ⟨_, hT2, rfl, _, rfl⟩⟩
    have I1 : Inv X pins σ (upd H s.heap.objs.size (.tup [x, y])) { s with heap := h'' } :=
      I.turnedNew (t' := s.toks) (ch := [z, U, O, j1, j2]) (fun c o hb q => (sb.2 c (fun q' => hb (by simp [q']))).trans (hk c o (fun q' => hb (by simp [q'])) (fun q' => hb (by simp [q'])) (fun q' => hb (by simp [q'])) (fun q' => hb (by simp [q'])) q)) ff (Nat.le_refl _) new
    refine ⟨.ref s.heap.objs.size, _, I1, rfl, ⟨_, x, y, rfl, I.hok.fresh (Nat.le_refl _), rfl, fun l hl => by rw [I.tuple_inj hl hqx]; exact gx, fun l hl => by rw [I.list_inj hl hqy]; exact gy⟩, ⟨z'', ?_, ⟨u, u2, ?_⟩, ?_, ?_⟩, fun c hcm => ?_⟩
    · exact (sb.2 _ Z.TIz).trans (hk _ _ Z.TIz Z.TITO Z.TIi1 Z.TIi2 gI)
    · exact (sb.2 _ Z.TOz).trans TO'
    · exact h1'.at fun o q => (sb.2 _ Z.i1z).trans q
    · exact h2'.at fun o q => (sb.2 _ Z.i2z).trans q
    · have hlt : c < s.heap.objs.size := by
        have e' : c = z ∨ c = U ∨ c = O ∨ c = j1 ∨ c = j2 := by simpa using hcm
        rcases e' with q | q | q | q | q
        · rw [q]; exact hzl
        · rw [q]; exact Heap.lt_size gI
        · rw [q]; exact Heap.lt_size gO
        · rw [q]; obtain ⟨_, e1, _⟩ := g1; exact Heap.lt_size e1
        · rw [q]; obtain ⟨_, e2, _⟩ := g2; exact Heap.lt_size e2
      rw [upd_ne (Nat.ne_of_lt hlt)]
      exact (ff c hcm).1
  done := by
    intro X hP hw hK hc i pins s σ H E I ff sg1 hg
    subst hP hw hK
    obtain ⟨gz, gI, ⟨x0, y0, gO⟩, g1, g2⟩ := sg1
    obtain ⟨us, vs, hqx, hqy, gend⟩ := hg
    obtain ⟨its, rv, p, _⟩ := I.tuple hqx
    obtain ⟨its2, rv2, p2, _⟩ := I.list hqy
    have t1 := rv.length
    have t2 := rv2.length
    have he : its.toArray[i]? = none ∨ its2.toArray[i]? = none := by
      rcases gend with q | q
      · exact .inl (by simp; omega)
      · exact .inr (by simp; omega)
    exact pyNext_zq_end (I.ok.hd hc) Z gz gI gO g1 g2 p p2.isList he fun h' hk => ⟨rfl, I.turnedL (t' := s.toks) (ch := [z, U, O, j1, j2]) (fun c o hb q =>
      hk c o (fun q' => hb (by simp [q'])) (fun q' => hb (by simp [q'])) (fun q' => hb (by simp [q'])) (fun q' => hb (by simp [q'])) q) ff⟩
  self := fun A i s Q E sg1 h => wpAny_pyIter_zip sg1.1 h

def iZq (K : PySem.W.Frag) (ta : TA) : TI := fun σ H R => ta σ H fun vs H1 => ∃ a b xs ys, vs = [.ref a, .ref b] ∧ SqT K H1 a xs ∧ SqL K H1 b ys ∧ R (ItzQ K a b) H1
theorem pi_zq {X : Cx} {e e2 : Expr} {ta : TA} {p pos tp : Pos} {es : List Expr} {kk : Nat} (hg : Gl X "zip") (hm : X.mg "zip" = none) (ha : PA X [e, e2] ta)
    (hs : starEach [e, e2] X.env = (false, eval e X.env) :: starEach [e2] X.env := by rfl) (hpl : (backTo pos (starEach [e2] X.env)).any (·.1) = false := by rfl) :
    PI X (.Tuple es kk tp) (.Call (.Name "zip" p) [e, e2] [] pos) (iZq X.K ta) := by
  refine ⟨fun pins s σ H R I h => ?_⟩
  refine Call_ (ld_blt I hg hm PyProof.Rows.boot_zip (PyProof.Rows.callWith_type1 (thn (ha.run pos pins s σ H _ I h) fun us s1 ⟨vs, H1, I1, r1, q1⟩ => ?_) hs hpl))
  obtain ⟨a, b, xs, ys, rfl, qa, qb, q⟩ := q1
  obtain ⟨u, v, rfl, ru, rv⟩ := Vals.two r1
  cases ru
  cases rv
  obtain ⟨its, r3, p1, _⟩ := I1.tuple qa
  obtain ⟨its2, r4, p2, _⟩ := I1.list qb
  obtain ⟨o1, ho1, _⟩ := id p1
  refine call_zq (show s1.heap.IsTuple a its.toArray from p1) p2.isList fun g k1 k2 k3 k4 k5 _ hk => wpAny_pyIter_zip k1 ?_
  have I2 : Inv X pins σ H1 { s1 with heap := g } := I1.kept (t' := s1.toks) hk
  refine ⟨s1.heap.objs.size + 4, [s1.heap.objs.size + 4, s1.heap.objs.size + 2, s1.heap.objs.size + 3, s1.heap.objs.size, s1.heap.objs.size + 1], _, _, H1, rfl, I2, turn_zq (PySem.W.ktu_apart s1.heap.objs.size a b (Heap.lt_size ho1) p2.lt), ⟨k1, k2, ⟨_, _, k3⟩, k4, k5⟩, fun c hc => ?_, q⟩
  have le : s1.heap.objs.size ≤ c := by
    have e' : c = s1.heap.objs.size + 4 ∨ c = s1.heap.objs.size + 2 ∨ c = s1.heap.objs.size + 3 ∨ c = s1.heap.objs.size ∨ c = s1.heap.objs.size + 1 := by simpa using hc
    rcases e' with z | z | z | z | z <;> rw [z]
    · exact Nat.le_add_right _ _
    · exact Nat.le_add_right _ _
    · exact Nat.le_add_right _ _
    · exact Nat.le_refl _
    · exact Nat.le_add_right _ _
  exact I1.fpOk le (I1.hok.fresh le)
end MiniV

set_option Elab.async false
set_option linter.all false
set_option maxRecDepth 100000
set_option maxHeartbeats 4000000
/-! Mini W: enumerate and zip over lists and tuples. -/
namespace Mini
open PySem PySem.Spec PyProof.Rows L2
def mEnumA (m : ME) : MA := fun S w => (m S w).bind fun p => (seqOf p.1).map fun xs => (enumD 0 xs, p.2)
def mZipA (m m' : ME) : MA := fun S w => (m S w).bind fun p => (m' S p.2).bind fun q => match p.1, q.1 with
  | .list xs, .list ys => some (zipD xs ys, q.2)
  | .tuple xs, .tuple ys => some (zipD xs ys, q.2)
  | .tuple xs, .list ys => some (zipD xs ys, q.2)
  | _, _ => none
section
variable {β : Bool} {r : Strg} {X : Cx} {e : Expr} {es : List Expr} {m : ME} {p pos pt : Pos}
theorem di_enumA {k : Nat} (hg : Gl X "enumerate") (hm : X.mg "enumerate" = none) (ha : DE β r X e m) (hs : starEach [e] X.env = [(false, eval e X.env)] := by rfl) : DI β true r X (.Tuple es k pt) (.Call (.Name "enumerate" p) [e] [] pos) (mEnumA m) := by
  refine pi_imp (pi_or (di_enum hg hm ha hs) (MiniU.pi_enumT hg hm (da_cons ha da_nil (by rw [hs] <;> rfl)) hs)) fun σ H R ⟨F, Ω, S, w, w', ds, Rl, hm, q⟩ => ?_
  unfold mEnumA at hm
  obtain ⟨⟨d, w1⟩, h1, hm⟩ := Option.bind_eq_some_iff.mp hm
  obtain ⟨xs, h2, hm⟩ := Option.map_eq_some_iff.mp hm
  rcases seqOf_inv h2 with rfl | rfl
  · cases hm
    exact .inl ⟨F, Ω, S, w, _, _, Rl, by unfold mEnum; rw [h1]; rfl, q⟩
  · cases hm
    refine .inr ⟨F, Ω, S, w, _, [.tuple xs], Rl, by unfold mCons mNil; rw [h1]; rfl, fun vs H1 R1 e1 hv => ?_⟩
    obtain ⟨v, rfl, hx⟩ := hv.one
    obtain ⟨a, us, rfl, l1, wk⟩ := walk_tup (K := X.K) R1 hx
    refine ⟨a, us, rfl, l1, q _ H1 R1 e1 ⟨fun Ω' H' i s hi => ?_, fun Ω' H' i s hi => ?_, fun Ω' H' i x H'' d s hd y => ?_⟩⟩
    · rw [enumD_len] at hi
      exact wk.stop Ω' H' i s hi
    · rw [enumD_len] at hi
      exact wk.go Ω' H' i s hi
    · obtain ⟨f, hf, rfl⟩ := enumD_get hd
      obtain ⟨T, x', rfl, hT, rfl, hx'⟩ := y
      have k := (wk.yld Ω' H' i x' H' f s hf ⟨rfl, hx'⟩).2
      rw [Nat.zero_add]
      exact item_pair hT (.int _) k
theorem di_zipA {k : Nat} {e2 : Expr} {m2 : ME} (hg : Gl X "zip") (hm : X.mg "zip" = none) (ha : DE β r X e m) (hb : DE β r X e2 m2)
    (hs : starEach [e, e2] X.env = (false, eval e X.env) :: starEach [e2] X.env := by rfl) (hs2 : starEach [e2] X.env = (false, eval e2 X.env) :: starEach [] X.env := by rfl) (hpl : (backTo pos (starEach [e2] X.env)).any (·.1) = false := by rfl) :
    DI β true r X (.Tuple es k pt) (.Call (.Name "zip" p) [e, e2] [] pos) (mZipA m m2) := by
  refine pi_imp (pi_or (di_zip hg hm ha hb hs hs2 hpl) (MiniV.pi_zq hg hm (da_cons ha (da_cons hb da_nil hs2) hs) hs hpl)) fun σ H R ⟨F, Ω, S, w, w', ds, Rl, hm, q⟩ => ?_
  unfold mZipA at hm
  obtain ⟨⟨d, w1⟩, h1, hm⟩ := Option.bind_eq_some_iff.mp hm
  obtain ⟨⟨d2, w2⟩, h2, hm⟩ := Option.bind_eq_some_iff.mp hm
  cases d with
  | list xs =>
    cases d2 with
    | list ys =>
      cases hm
      exact .inl ⟨F, Ω, S, w, _, _, Rl, by unfold mZip; simp only [h1, h2, Option.bind_some], q⟩
    | _ => cases hm
  | tuple xs =>
    cases d2 with
    | tuple ys =>
      cases hm
      exact .inl ⟨F, Ω, S, w, _, _, Rl, by unfold mZip; simp only [h1, h2, Option.bind_some], q⟩
    | list ys =>
      cases hm
      refine .inr ⟨F, Ω, S, w, w2, [.tuple xs, .list ys], Rl, by unfold mCons mNil; simp only [h1, h2, Option.bind_some, Option.map_some], fun vs H1 R1 e1 hv => ?_⟩
      obtain ⟨v, u, rfl, hx, hy⟩ := hv.two
      obtain ⟨a, us, rfl, l1, wk⟩ := walk_tup (K := X.K) R1 hx
      obtain ⟨b, us2, rfl, l2, wk2⟩ := walk_lst (K := X.K) R1 hy
      refine ⟨a, b, us, us2, rfl, l1, l2, q _ H1 R1 e1 ⟨fun Ω' H' i s hi => ?_, fun Ω' H' i s hi => ?_, fun Ω' H' i x H'' d s hd y => ?_⟩⟩
      · rw [zipD_len] at hi
        by_cases hl : xs.length ≤ i
        · obtain ⟨zs, k1, k2⟩ := wk.stop Ω' H' i s hl
          by_cases hl2 : ys.length ≤ i
          · obtain ⟨zs2, k3, k4⟩ := wk2.stop Ω' H' i s hl2
            exact ⟨zs, zs2, k1, k3, .inl k2⟩
          · obtain ⟨zs2, x, k3, k4⟩ := wk2.go Ω' H' i s (by omega)
            exact ⟨zs, zs2, k1, k3, .inl k2⟩
        · obtain ⟨zs, x, k1, k2⟩ := wk.go Ω' H' i s (by omega)
          obtain ⟨zs2, k3, k4⟩ := wk2.stop Ω' H' i s (by omega)
          exact ⟨zs, zs2, k1, k3, .inr k4⟩
      · rw [zipD_len] at hi
        obtain ⟨zs, x, k1, k2⟩ := wk.go Ω' H' i s (by omega)
        obtain ⟨zs2, x2, k3, k4⟩ := wk2.go Ω' H' i s (by omega)
        exact ⟨zs, zs2, x, x2, k1, k3, k2, k4⟩
      · obtain ⟨f, g, hf, hg, rfl⟩ := zipD_get hd
        obtain ⟨T, x', y', rfl, hT, rfl, hx', hy'⟩ := y
        exact item_pair hT (wk.yld Ω' H' i x' H' f s hf ⟨rfl, hx'⟩).2 (wk2.yld Ω' H' i y' H' g s hg ⟨rfl, hy'⟩).2
    | _ => cases hm
  | _ => cases d2 <;> cases hm
end
end Mini

set_option Elab.async false
set_option linter.all false
set_option maxRecDepth 100000
set_option maxHeartbeats 4000000
/-! Mini X: (a, b, ..) = a list. -/
namespace Mini
open PySem PySem.Spec PyProof.Rows L2
def pTupL (ps : MGs) : MG := fun d S => match d with
  | .list ds => ps ds S
  | _ => none
section
variable {β : Bool} {X : Cx} {es : List Expr} {us : List Nat} {ps : MGs} {pos : Pos}
theorem dg_unl {k n : Nat} (hc : X.calm = true) (h : DGs β us n X es ps) (hn : (assignEach es X.env).length = n := by rfl) (hst : (assignEach es X.env).findIdx? (·.1) = none := by rfl) : DG β false us X (.Tuple es k pos) (pTupL ps) :=
  pg_imp (pg_unl hc h.1 hn hst) fun v σ H Q ⟨F, Ω, S, w, d, S', R, hv, hp, q⟩ => by
    cases d with
    | list ds =>
      obtain ⟨a, xs, rfl, h1, _, _, h2⟩ := Dv.lst_inv hv
      exact ⟨a, xs, rfl, SqL.of h1, by rw [h2.length]; exact h.2 ds S S' hp, F, Ω, S, w, ds, S', R, h2, hp, q⟩
    | _ => cases hp
end
end Mini

set_option Elab.async false
set_option linter.all false
set_option maxRecDepth 100000
set_option maxHeartbeats 4000000
/-! Mini Y: (a, b) = (x, y), (a, b, c) = (x, y, z) where some are new objects of the def's own. -/
namespace Mini
open PySem PySem.Spec PyProof.Rows L2
def mkSl (f : Bool) (d : PyData) : Sl := match f with
  | true => .own d
  | false => .val d
def AV {β : Bool} (f : Bool) (F : Fx β) (Ω : AS) (H : Hp) (σ : L2.St) (S : SEnv) (v : V) (d : PyData) : Prop := match f with
  | false => Dv F.β Ω H v d
  | true => ∃ a, v = .ref a ∧ Ω a ∧ F.H0 a = none ∧ OwnAt F.β Ω H a d ∧ ∀ (j : Nat) (e : PyData), S[j]? = some (.own e) → σ[j]? ≠ some (some (.ref a))
def tAv (β : Bool) (f : Bool) (m : ME) : TE := fun σ H Q => ∃ (F : Fx β) (Ω : AS) (S : SEnv) (w w' : Drw) (d : PyData),
  Rel F H Ω σ S w ∧ m S w = some (d, w') ∧ ∀ v H' Ω', Rel F H' Ω' σ S w' → Evs F.st H H' → Grow Ω H Ω' H' → (∀ a, Ω a → Ω' a) → AV f F Ω' H' σ S v d → (f = true → ∃ a, v = .ref a ∧ H a = none) → Q v H'
section
variable {β : Bool} {X : Cx} {e : Expr} {m : ME} {F : Fx β} {H H' : Hp} {Ω Ω' : AS} {σ : L2.St} {S : SEnv} {w w' : Drw}
theorem av_esc (h : DE β .esc X e m) : PE X e (tAv β false m) := pe_imp h fun σ H Q ⟨F, Ω, S, w, w', d, R, hm, q⟩ =>
  ⟨F, Ω, S, w, w', d, R, hm, fun v H' R' e' hv => q v H' Ω R' e' (R.grow e') (fun _ z => z) hv fun z => nomatch z⟩
theorem av_fr (h : DF β X e m) : PE X e (tAv β true m) := pe_imp h fun σ H Q ⟨F, Ω, S, w, w', d, R, hm, q⟩ =>
  ⟨F, Ω, S, w, w', d, R, hm, fun a H' R' e' hn ho => by
    have h0 : F.H0 a = none := by
      cases q0 : F.H0 a with
      | none => rfl
      | some o =>
        by_cases hz : F.st = some a
        · exact absurd hn (R.dom a (R.stΨ hz).2)
        · rw [R.ext a o q0 hz] at hn; cases hn
    refine q (.ref a) H' (Also Ω a) (R.also hn e' R'.wok (by obtain ⟨o, z⟩ := ho.some; rw [z]; exact fun z => nomatch z)) e' (R.grown e' hn) (fun _ z => .inl z) ⟨a, rfl, .inr rfl, h0, ho, fun j x hj hs => ?_⟩ fun _ => ⟨a, rfl, hn⟩
    obtain ⟨b, q1, _, _, q4⟩ := R.slot j _ hj
    rw [hs] at q1
    cases q1
    obtain ⟨o, z⟩ := q4.some
    rw [hn] at z; cases z⟩
theorem AV.mono {f : Bool} {v : V} {d : PyData} (R : Rel F H Ω σ S w) (ev : Evs F.st H H') (g : Grow Ω H Ω' H') (sb : ∀ a, Ω a → Ω' a) (h : AV f F Ω H σ S v d) : AV f F Ω' H' σ S v d := by
  cases f with
  | false => exact Dv.grow g h
  | true =>
    obtain ⟨a, h1, h2, h3, h4, h5⟩ := h
    obtain ⟨o, z⟩ := h4.some
    exact ⟨a, h1, sb a h2, h3, h4.grow g ((ev a o z fun q => R.old a (R.stΨ q).1 h3).trans z.symm), h5⟩
theorem AV.set {f f2 : Bool} {v v2 : V} {d d2 : PyData} (i : Nat) (h : AV f2 F Ω H σ S v2 d2) (ne : f = true → f2 = true → v ≠ v2) : AV f2 F Ω H (σ.set i (some v)) (S.set i (mkSl f d)) v2 d2 := by
  cases f2 with
  | false => exact h
  | true =>
    obtain ⟨a, h1, h2, h3, h4, h5⟩ := h
    refine ⟨a, h1, h2, h3, h4, fun j e hj hs => ?_⟩
    by_cases hij : i = j
    · subst hij
      rw [List.getElem?_set] at hj hs
      simp only [if_true] at hj hs
      split at hj
      · split at hs
        · cases f with
          | false => cases hj
          | true =>
            have hs' : v = V.ref a := Option.some.inj (Option.some.inj hs)
            exact ne rfl rfl (hs'.trans h1.symm)
        · cases hs
      · cases hj
    · rw [List.getElem?_set_ne hij] at hj hs
      exact h5 j e hj hs
theorem Rel.setAV {f : Bool} {v : V} {d : PyData} (R : Rel F H Ω σ S w) (i : Nat) (h : AV f F Ω H σ S v d) : Rel F H Ω (σ.set i (some v)) (S.set i (mkSl f d)) w := by
  cases f with
  | false => exact R.setVal i h
  | true =>
    obtain ⟨a, rfl, h2, h3, h4, h5⟩ := h
    exact R.setOwn i h2 h3 h4 fun j e _ hj => h5 j e hj
theorem av_ne {f f2 : Bool} {v v2 : V} {d : PyData} (R : Rel F H Ω σ S w) (h : AV f F Ω H σ S v d) (fr : f2 = true → ∃ a, v2 = .ref a ∧ H a = none) : f = true → f2 = true → v ≠ v2 := fun e1 e2 z => by
  subst e1
  obtain ⟨a, h1, h2, _⟩ := h
  obtain ⟨b, h3, h4⟩ := fr e2
  rw [h1, h3] at z
  cases z
  exact R.dom a h2 h4
def sParF (f1 f2 : Bool) (i j : Nat) (ma mb : ME) : MS := fun S w => (ma S w).bind fun p => (mb S p.2).bind fun q => some (.nx, (S.set i (mkSl f1 p.1)).set j (mkSl f2 q.1), q.2)
def sParF3 (f1 f2 f3 : Bool) (i j l : Nat) (ma mb mc : ME) : MS := fun S w => (ma S w).bind fun p => (mb S p.2).bind fun q => (mc S q.2).bind fun r => some (.nx, ((S.set i (mkSl f1 p.1)).set j (mkSl f2 q.1)).set l (mkSl f3 r.1), r.2)
theorem ds_parF {f1 f2 : Bool} {i j : Nat} {x y : Str} {a b : Expr} {ma mb : ME} {px p1 p2 p3 pos : Pos} {kt k2 : Nat} (hc : X.calm = true) (hN : X.N.Nodup) (hi : X.N[i]? = some x) (hj : X.N[j]? = some y) (hij : i ≠ j)
    (hx : X.env.scope.names.lookup x = some .local) (hy : X.env.scope.names.lookup y = some .local) (ha : PE X a (tAv β f1 ma)) (hb : PE X b (tAv β f2 mb))
    (hw : swappedStores [.Tuple [.Name x px, .Name y p1] kt p2] (.Tuple [a, b] k2 p3) X.env = pure (some [x, y]))
    (hsa : starEach [a, b] X.env = (false, eval a X.env) :: starEach [b] X.env := by rfl) (hsb : starEach [b] X.env = (false, eval b X.env) :: starEach [] X.env := by rfl)
    (hs : swapsWithSole [.Tuple [.Name x px, .Name y p1] kt p2] (.Tuple [a, b] k2 p3) pos.line X.env = pure false := by rfl) :
    DS β X (.Assign [.Tuple [.Name x px, .Name y p1] kt p2] (.Tuple [a, b] k2 p3) pos) (sParF f1 f2 i j ma mb) := ps_imp (ps_par hc hN hi hj hij hx hy (pa_cons ha (pa_cons hb pa_nil hsb) hsa) hw hs) fun D σ H ⟨F, Ω, S, w, fl, S', w', R, hm, q⟩ => by
  unfold sParF at hm
  obtain ⟨⟨d1, w1⟩, h1, hm⟩ := Option.bind_eq_some_iff.mp hm
  obtain ⟨⟨d2, w2⟩, h2, hm⟩ := Option.bind_eq_some_iff.mp hm
  cases hm
  refine ⟨F, Ω, S, w, w1, d1, R, h1, fun v1 H1 Ω1 R1 e1 g1 s1 a1 n1 => ⟨F, Ω1, S, w1, _, d2, R1, h2, fun v2 H2 Ω2 R2 e2 g2 s2 a2 n2 => ?_⟩⟩
  refine ⟨v1, v2, rfl, q _ H2 Ω2 ((R2.setAV i (a1.mono R1 e2 g2 s2)).setAV j (a2.set i (av_ne R1 a1 n2))) (g1.trans g2)⟩
theorem ds_parF3 {f1 f2 f3 : Bool} {i j l : Nat} {x y v : Str} {a b c : Expr} {ma mb mc : ME} {px p1 p2 p3 p4 pos : Pos} {kt k2 : Nat} (hc : X.calm = true) (hN : X.N.Nodup) (hi : X.N[i]? = some x) (hj : X.N[j]? = some y) (hl : X.N[l]? = some v) (hij : i ≠ j) (hil : i ≠ l) (hjl : j ≠ l)
    (hx : X.env.scope.names.lookup x = some .local) (hy : X.env.scope.names.lookup y = some .local) (hz : X.env.scope.names.lookup v = some .local) (ha : PE X a (tAv β f1 ma)) (hb : PE X b (tAv β f2 mb)) (hcc : PE X c (tAv β f3 mc))
    (hw : swappedStores [.Tuple [.Name x px, .Name y p1, .Name v p2] kt p3] (.Tuple [a, b, c] k2 p4) X.env = pure (some [x, y, v]))
    (hsa : starEach [a, b, c] X.env = (false, eval a X.env) :: starEach [b, c] X.env := by rfl) (hsb : starEach [b, c] X.env = (false, eval b X.env) :: starEach [c] X.env := by rfl) (hsc : starEach [c] X.env = (false, eval c X.env) :: starEach [] X.env := by rfl)
    (hs : swapsWithSole [.Tuple [.Name x px, .Name y p1, .Name v p2] kt p3] (.Tuple [a, b, c] k2 p4) pos.line X.env = pure false := by rfl) :
    DS β X (.Assign [.Tuple [.Name x px, .Name y p1, .Name v p2] kt p3] (.Tuple [a, b, c] k2 p4) pos) (sParF3 f1 f2 f3 i j l ma mb mc) := ps_imp (ps_par3 hc hN hi hj hl hij hil hjl hx hy hz (pa_cons ha (pa_cons hb (pa_cons hcc pa_nil hsc) hsb) hsa) hw hs) fun D σ H ⟨F, Ω, S, w, fl, S', w', R, hm, q⟩ => by
  unfold sParF3 at hm
  obtain ⟨⟨d1, w1⟩, h1, hm⟩ := Option.bind_eq_some_iff.mp hm
  obtain ⟨⟨d2, w2⟩, h2, hm⟩ := Option.bind_eq_some_iff.mp hm
  obtain ⟨⟨d3, w3⟩, h3, hm⟩ := Option.bind_eq_some_iff.mp hm
  cases hm
  refine ⟨F, Ω, S, w, w1, d1, R, h1, fun v1 H1 Ω1 R1 e1 g1 s1 a1 n1 => ⟨F, Ω1, S, w1, _, d2, R1, h2, fun v2 H2 Ω2 R2 e2 g2 s2 a2 n2 => ⟨F, Ω2, S, w2, _, d3, R2, h3, fun v3 H3 Ω3 R3 e3 g3 s3 a3 n3 => ?_⟩⟩⟩
  have b1 := a1.mono R1 e2 g2 s2
  refine ⟨v1, v2, v3, rfl, q _ H3 Ω3 (((R3.setAV i (b1.mono R2 e3 g3 s3)).setAV j ((a2.mono R2 e3 g3 s3).set i (av_ne R1 a1 n2))).setAV l ((a3.set i (av_ne R2 b1 n3)).set j (av_ne R2 a2 n3))) ((g1.trans g2).trans g3)⟩
end
end Mini

set_option Elab.async false
set_option linter.all false
set_option maxRecDepth 100000
set_option maxHeartbeats 4000000
set_option exponentiation.threshold 10000
/-! Mini Q: what the models of the shared defs answer, plain. -/
namespace Mini
open PySem PySem.Spec PyProof.Rows L2

def mDraw : MS := (sSeq (sIf (mAnd (mB (m2 dEq (mSt 0 3) (mC (.int 0)))) (mB (m2 dLt (mSt 0 1) (mStLen 0))))
    (sSt3 0 2 3 1 (mCons (mStCell 0 (mSt 0 1)) (mCons (mC (.int 60)) (mCons (m2 dAdd (mSt 0 1) (mC (.int 1))) mNil)))) sNx)
    (sSeq (sIf (mB (m2 dGt (mSt 0 3) (mC (.int 0))))
    (sSeq (sAsg (m2 dMod (mF dInt (mCons (mSt 0 2) mNil)) (mLook 1)) (pName 2))
    (sSeq (sSt 0 2 (m2 dDiv (mSt 0 2) (mLook 1)))
    (sSeq (sSt 0 3 (mIte (mB (m2 dGt (mSt 0 2) (mC (.int 0)))) (m2 dSub (mSt 0 3) (mC (.int 1))) (mC (.int 0))))
    (sRet (mLook 2))))) sNx)
    (sSeq (sSt 0 5 (m2 dAdd (mSt 0 5) (mC (.int 1))))
    (sSeq (sSt 0 4 (m2 dMod (mF dInt (mCons (m2 dAdd (m2 dAdd (m2 dMul (mSt 0 4) (mC (.int 48271))) (m2 dMul (m2 dMul (mSt 0 5) (mSt 0 5)) (mC (.int 69621)))) (mC (.int 11))) mNil)) (mC (.int 2147483647))))
    (sRet (m2 dMod (mF dInt (mCons (m2 dDiv (mSt 0 4) (mC (.int 13))) mNil)) (mLook 1)))))))
theorem eqv_int (i j : Int) : PyData.eqv (.int i) (.int j) = (i == j) := by simp [PyData.eqv]
theorem dEq_int (i j : Int) : dEq (.int i) (.int j) = some (.bool (decide (i = j))) := by
  unfold dEq
  rw [if_pos ⟨rfl, rfl⟩, eqv_int]
  by_cases h : i = j
  · simp [h]
  · simp [h]
theorem dNe_int (i j : Int) : dNe (.int i) (.int j) = some (.bool (!decide (i = j))) := by
  unfold dNe
  rw [if_pos ⟨rfl, rfl⟩, eqv_int]
  by_cases h : i = j
  · simp [h]
  · simp [h]
/-- the second half: the draw from what is there -/
def mDrawB : MS := (sSeq (sIf (mB (m2 dGt (mSt 0 3) (mC (.int 0))))
    (sSeq (sAsg (m2 dMod (mF dInt (mCons (mSt 0 2) mNil)) (mLook 1)) (pName 2))
    (sSeq (sSt 0 2 (m2 dDiv (mSt 0 2) (mLook 1)))
    (sSeq (sSt 0 3 (mIte (mB (m2 dGt (mSt 0 2) (mC (.int 0)))) (m2 dSub (mSt 0 3) (mC (.int 1))) (mC (.int 0))))
    (sRet (mLook 2))))) sNx)
    (sSeq (sSt 0 5 (m2 dAdd (mSt 0 5) (mC (.int 1))))
    (sSeq (sSt 0 4 (m2 dMod (mF dInt (mCons (m2 dAdd (m2 dAdd (m2 dMul (mSt 0 4) (mC (.int 48271))) (m2 dMul (m2 dMul (mSt 0 5) (mSt 0 5)) (mC (.int 69621)))) (mC (.int 11))) mNil)) (mC (.int 2147483647))))
    (sRet (m2 dMod (mF dInt (mCons (m2 dDiv (mSt 0 4) (mC (.int 13))) mNil)) (mLook 1))))))
theorem Drw.In.mono {w : Drw} {n m : Nat} (h : w.In n) (hm : n ≤ m) : w.In m := ⟨h.ok, by have := h.few; omega⟩
theorem drawB {w : Drw} {n : Nat} (h : w.In n) (hn : n < 2 ^ 61) {many : Int} (h1 : 0 < many) (h2 : many ≤ 1000000) : ∃ r w' S', mDrawB [.stt, .val (.int many), .no] w = some (.rt (.int r), S', w') ∧ 0 ≤ r ∧ r < many ∧ w'.In (n + 1) := by
  have hb : many.natAbs < bigN := Nat.lt_of_lt_of_le (show many.natAbs < 2 ^ 20 by omega) (Nat.pow_le_pow_right (by decide) (by decide))
  obtain ⟨ok, few⟩ := h
  by_cases hl : 0 < w.left
  · have c0 := ok.cur0
    have q0 : 0 ≤ w.cur / many := Int.ediv_nonneg c0 (Int.le_of_lt h1)
    have q1 : w.cur / many ≤ w.cur := Int.ediv_le_self _ c0
    refine ⟨w.cur % many, if 0 < w.cur / many then { w with cur := w.cur / many, left := w.left - 1 } else { w with cur := w.cur / many, left := 0 }, [.stt, .val (.int many), .val (.int (w.cur % many))], ?_, Int.emod_nonneg _ (by omega), Int.emod_lt_of_pos _ h1, ?_⟩
    · have a1 := ok.left1
      by_cases hz : 0 < w.cur / many
      · simp only [mDrawB, runM, runS, env0, flD, cal, sSeq, sIf, sRet, sRetN, sDrop, sAsg, sOwn, sFrz, frz, sPar, sPar3, sParF, sParF3, mkSl, sNx, sNo, sBk, sCt, sApp, sExt, sSetIx, sAug, sFor, sWhile, m1, m2, mC, mVar, mLook, mAnd, mOr, mNot, mIte, mB, mV, mTru, dTru, mAndV, mOrV, mNotV, mNil, mCons, mTup, mLst, mF, mFS, mItems, mRng, mRng1, mRng2, mRng3, dRng1, dRng2, dRng3, mEnum, mZip, mEnumA, mZipA, mCut, mNoP, mPt, mRev, mNeg, dNeg, dRev, dCut, mLc, mYes, pName, pTup, pTupL, pNil, pCons, wipeS, dAdd, dSub, dMul, dDiv, dMod, dMulI, dAddI, dCmp, dIsN, dNotN, isNone, dLenX, dLen, seqOf, dAbs, dMax2, dMin2, dInt, dTuple, dList, dCatL, dRepL, mSt, mStLen, mStCell, sSt, sSt3, drwGet, drwSet, mCh2, mCh3, mCount, dCount, Option.bind_some, Option.map_some, Option.bind_none, Option.map_none, List.getElem?_cons_zero, List.getElem?_cons_succ, List.set_cons_zero, List.set_cons_succ, List.map_cons, List.map_nil, List.cons_append, List.nil_append, List.replicate_succ, List.replicate_zero, List.length_cons, List.length_nil, if_true, if_false, reduceIte, Bool.false_eq_true, Bool.not_true, Bool.not_false, decide_true, decide_false, hl, h1, hb, q0, q1, hz, and_self, true_or, decide_true]
        rw [if_pos (by omega)]
        rfl
      · simp only [mDrawB, runM, runS, env0, flD, cal, sSeq, sIf, sRet, sRetN, sDrop, sAsg, sOwn, sFrz, frz, sPar, sPar3, sParF, sParF3, mkSl, sNx, sNo, sBk, sCt, sApp, sExt, sSetIx, sAug, sFor, sWhile, m1, m2, mC, mVar, mLook, mAnd, mOr, mNot, mIte, mB, mV, mTru, dTru, mAndV, mOrV, mNotV, mNil, mCons, mTup, mLst, mF, mFS, mItems, mRng, mRng1, mRng2, mRng3, dRng1, dRng2, dRng3, mEnum, mZip, mEnumA, mZipA, mCut, mNoP, mPt, mRev, mNeg, dNeg, dRev, dCut, mLc, mYes, pName, pTup, pTupL, pNil, pCons, wipeS, dAdd, dSub, dMul, dDiv, dMod, dMulI, dAddI, dCmp, dIsN, dNotN, isNone, dLenX, dLen, seqOf, dAbs, dMax2, dMin2, dInt, dTuple, dList, dCatL, dRepL, mSt, mStLen, mStCell, sSt, sSt3, drwGet, drwSet, mCh2, mCh3, mCount, dCount, Option.bind_some, Option.map_some, Option.bind_none, Option.map_none, List.getElem?_cons_zero, List.getElem?_cons_succ, List.set_cons_zero, List.set_cons_succ, List.map_cons, List.map_nil, List.cons_append, List.nil_append, List.replicate_succ, List.replicate_zero, List.length_cons, List.length_nil, if_true, if_false, reduceIte, Bool.false_eq_true, Bool.not_true, Bool.not_false, decide_true, decide_false, hl, h1, hb, q0, q1, hz, and_self, true_or, decide_true, decide_false]
        rfl
    · split
      · exact ⟨{ ok with cur0 := q0, cur1 := Nat.lt_of_le_of_lt (show (w.cur / many).natAbs ≤ w.cur.natAbs by omega) ok.cur1, left0 := (show (0 : Int) ≤ w.left - 1 by omega), left1 := (show w.left - 1 ≤ 60 by have := ok.left1; omega) }, by show w.cnt ≤ _; omega⟩
      · exact ⟨{ ok with cur0 := q0, cur1 := Nat.lt_of_le_of_lt (show (w.cur / many).natAbs ≤ w.cur.natAbs by omega) ok.cur1, left0 := Int.le_refl 0, left1 := (by decide : (0 : Int) ≤ 60) }, by show w.cnt ≤ _; omega⟩
  · have c0 := ok.cnt0
    have c1 := ok.cnt1
    have s0 := ok.seed0
    have s1 := ok.seed1
    let sd : Int := (w.seed * 48271 + (w.cnt + 1) * (w.cnt + 1) * 69621 + 11) % 2147483647
    have d0 : 0 ≤ sd := Int.emod_nonneg _ (by decide)
    have d1 : sd < 2147483647 := Int.emod_lt_of_pos _ (by decide)
    have k1 : (0 : Int) ≤ w.cnt + 1 ∧ w.cnt + 1 < 2 ^ 62 := ⟨by omega, by omega⟩
    have m1 : mulOk w.seed 48271 := .inr (.inl (by decide))
    have m2' : mulOk (w.cnt + 1) (w.cnt + 1) := .inl (by omega)
    have m3 : mulOk ((w.cnt + 1) * (w.cnt + 1)) 69621 := .inr (.inl (by decide))
    have hd : (0 : Int) ≤ (w.seed * 48271 + (w.cnt + 1) * (w.cnt + 1) * 69621 + 11) % 2147483647 ∧ (w.seed * 48271 + (w.cnt + 1) * (w.cnt + 1) * 69621 + 11) % 2147483647 < 2147483647 := ⟨d0, d1⟩
    have b13 : (0 : Int) < 13 ∧ (13 : Int).natAbs < bigN := ⟨by decide, Nat.lt_of_lt_of_le (show (13 : Int).natAbs < 2 ^ 20 by decide) (Nat.pow_le_pow_right (by decide) (by decide))⟩
    have p2 : (0 : Int) < 2147483647 := by decide
    refine ⟨sd / 13 % many, { w with cnt := w.cnt + 1, seed := sd }, [.stt, .val (.int many), .no], ?_, Int.emod_nonneg _ (by omega), Int.emod_lt_of_pos _ h1, ⟨{ ok with seed0 := d0, seed1 := d1, cnt0 := k1.1, cnt1 := k1.2 }, by show w.cnt + 1 ≤ _; omega⟩⟩
    simp only [mDrawB, runM, runS, env0, flD, cal, sSeq, sIf, sRet, sRetN, sDrop, sAsg, sOwn, sFrz, frz, sPar, sPar3, sParF, sParF3, mkSl, sNx, sNo, sBk, sCt, sApp, sExt, sSetIx, sAug, sFor, sWhile, m1, m2, mC, mVar, mLook, mAnd, mOr, mNot, mIte, mB, mV, mTru, dTru, mAndV, mOrV, mNotV, mNil, mCons, mTup, mLst, mF, mFS, mItems, mRng, mRng1, mRng2, mRng3, dRng1, dRng2, dRng3, mEnum, mZip, mEnumA, mZipA, mCut, mNoP, mPt, mRev, mNeg, dNeg, dRev, dCut, mLc, mYes, pName, pTup, pTupL, pNil, pCons, wipeS, dAdd, dSub, dMul, dDiv, dMod, dMulI, dAddI, dCmp, dIsN, dNotN, isNone, dLenX, dLen, seqOf, dAbs, dMax2, dMin2, dInt, dTuple, dList, dCatL, dRepL, mSt, mStLen, mStCell, sSt, sSt3, drwGet, drwSet, mCh2, mCh3, mCount, dCount, Option.bind_some, Option.map_some, Option.bind_none, Option.map_none, List.getElem?_cons_zero, List.getElem?_cons_succ, List.set_cons_zero, List.set_cons_succ, List.map_cons, List.map_nil, List.cons_append, List.nil_append, List.replicate_succ, List.replicate_zero, List.length_cons, List.length_nil, if_true, if_false, reduceIte, Bool.false_eq_true, Bool.not_true, Bool.not_false, decide_true, decide_false, hl, if_pos k1, if_pos m1, if_pos m2', if_pos m3, if_pos hd, if_pos b13, if_pos p2, if_pos h1]
    rfl
theorem ixN_nat {n k : Nat} (h : k < n) : ixN n (k : Int) = some k := by
  unfold ixN
  rw [if_pos (by omega), if_pos (by omega)]
  simp
theorem draw_ok {w : Drw} {n : Nat} (h : w.In n) (hn : n < 2 ^ 61) {many : Int} (h1 : 0 < many) (h2 : many ≤ 1000000) : ∃ r w', runS 1 mDraw [.int many] w = some (.int r, w') ∧ 0 ≤ r ∧ r < many ∧ w'.In (n + 1) := by
  have key : ∃ w2 : Drw, w2.In n ∧ mDraw [.stt, .val (.int many), .no] w = mDrawB [.stt, .val (.int many), .no] w2 := by
    by_cases c : w.left = 0 ∧ w.at_ < (w.cells.length : Int)
    · obtain ⟨c1, c2⟩ := c
      have a0 := h.ok.at0
      have len := h.ok.len
      obtain ⟨k, hk⟩ : ∃ k : Nat, w.at_ = (k : Int) := ⟨w.at_.toNat, by omega⟩
      have hk2 : k < w.cells.length := by omega
      have hat : atI w.cells w.at_ = some w.cells[k] := by
        unfold atI
        rw [hk, ixN_nat hk2]
        exact List.getElem?_eq_getElem hk2
      have hbig := h.ok.big w.cells[k] (List.getElem_mem hk2)
      refine ⟨{ w with cur := w.cells[k], left := 60, at_ := w.at_ + 1 }, ⟨{ h.ok with cur0 := hbig.1, cur1 := hbig.2, left0 := (by decide : (0 : Int) ≤ 60), left1 := (by decide : (60 : Int) ≤ 60), at0 := (show (0 : Int) ≤ w.at_ + 1 by omega), at1 := (show w.at_ + 1 ≤ 63 by omega) }, h.few⟩, ?_⟩
      have e1 : (0 : Int) ≤ w.cells[k] ∧ (w.cells[k] ≤ w.cur ∨ w.cells[k] ∈ w.cells) := ⟨hbig.1, .inr (List.getElem_mem hk2)⟩
      have e2 : (0 : Int) ≤ w.at_ + 1 ∧ w.at_ + 1 ≤ 63 := ⟨by omega, by omega⟩
      have e3 : (0 : Int) ≤ 60 ∧ (60 : Int) ≤ 60 := by decide
      show sSeq _ mDrawB _ _ = _
      simp only [runM, runS, env0, flD, cal, sSeq, sIf, sRet, sRetN, sDrop, sAsg, sOwn, sFrz, frz, sPar, sPar3, sParF, sParF3, mkSl, sNx, sNo, sBk, sCt, sApp, sExt, sSetIx, sAug, sFor, sWhile, m1, m2, mC, mVar, mLook, mAnd, mOr, mNot, mIte, mB, mV, mTru, dTru, mAndV, mOrV, mNotV, mNil, mCons, mTup, mLst, mF, mFS, mItems, mRng, mRng1, mRng2, mRng3, dRng1, dRng2, dRng3, mEnum, mZip, mEnumA, mZipA, mCut, mNoP, mPt, mRev, mNeg, dNeg, dRev, dCut, mLc, mYes, pName, pTup, pTupL, pNil, pCons, wipeS, dAdd, dSub, dMul, dDiv, dMod, dMulI, dAddI, dCmp, dIsN, dNotN, isNone, dLenX, dLen, seqOf, dAbs, dMax2, dMin2, dInt, dTuple, dList, dCatL, dRepL, mSt, mStLen, mStCell, sSt, sSt3, drwGet, drwSet, mCh2, mCh3, mCount, dCount, Option.bind_some, Option.map_some, Option.bind_none, Option.map_none, List.getElem?_cons_zero, List.getElem?_cons_succ, List.set_cons_zero, List.set_cons_succ, List.map_cons, List.map_nil, List.cons_append, List.nil_append, List.replicate_succ, List.replicate_zero, List.length_cons, List.length_nil, if_true, if_false, reduceIte, Bool.false_eq_true, Bool.not_true, Bool.not_false, decide_true, decide_false, dEq_int, c1, decide_true, c2, hat, if_pos e1, if_pos e2, if_pos e3]
    · refine ⟨w, h, ?_⟩
      show sSeq _ mDrawB _ _ = _
      by_cases c1 : w.left = 0
      · have c2 : ¬ w.at_ < (w.cells.length : Int) := fun z => c ⟨c1, z⟩
        simp only [runM, runS, env0, flD, cal, sSeq, sIf, sRet, sRetN, sDrop, sAsg, sOwn, sFrz, frz, sPar, sPar3, sParF, sParF3, mkSl, sNx, sNo, sBk, sCt, sApp, sExt, sSetIx, sAug, sFor, sWhile, m1, m2, mC, mVar, mLook, mAnd, mOr, mNot, mIte, mB, mV, mTru, dTru, mAndV, mOrV, mNotV, mNil, mCons, mTup, mLst, mF, mFS, mItems, mRng, mRng1, mRng2, mRng3, dRng1, dRng2, dRng3, mEnum, mZip, mEnumA, mZipA, mCut, mNoP, mPt, mRev, mNeg, dNeg, dRev, dCut, mLc, mYes, pName, pTup, pTupL, pNil, pCons, wipeS, dAdd, dSub, dMul, dDiv, dMod, dMulI, dAddI, dCmp, dIsN, dNotN, isNone, dLenX, dLen, seqOf, dAbs, dMax2, dMin2, dInt, dTuple, dList, dCatL, dRepL, mSt, mStLen, mStCell, sSt, sSt3, drwGet, drwSet, mCh2, mCh3, mCount, dCount, Option.bind_some, Option.map_some, Option.bind_none, Option.map_none, List.getElem?_cons_zero, List.getElem?_cons_succ, List.set_cons_zero, List.set_cons_succ, List.map_cons, List.map_nil, List.cons_append, List.nil_append, List.replicate_succ, List.replicate_zero, List.length_cons, List.length_nil, if_true, if_false, reduceIte, Bool.false_eq_true, Bool.not_true, Bool.not_false, decide_true, decide_false, dEq_int, c1, decide_true, c2, decide_false]
      · simp only [runM, runS, env0, flD, cal, sSeq, sIf, sRet, sRetN, sDrop, sAsg, sOwn, sFrz, frz, sPar, sPar3, sParF, sParF3, mkSl, sNx, sNo, sBk, sCt, sApp, sExt, sSetIx, sAug, sFor, sWhile, m1, m2, mC, mVar, mLook, mAnd, mOr, mNot, mIte, mB, mV, mTru, dTru, mAndV, mOrV, mNotV, mNil, mCons, mTup, mLst, mF, mFS, mItems, mRng, mRng1, mRng2, mRng3, dRng1, dRng2, dRng3, mEnum, mZip, mEnumA, mZipA, mCut, mNoP, mPt, mRev, mNeg, dNeg, dRev, dCut, mLc, mYes, pName, pTup, pTupL, pNil, pCons, wipeS, dAdd, dSub, dMul, dDiv, dMod, dMulI, dAddI, dCmp, dIsN, dNotN, isNone, dLenX, dLen, seqOf, dAbs, dMax2, dMin2, dInt, dTuple, dList, dCatL, dRepL, mSt, mStLen, mStCell, sSt, sSt3, drwGet, drwSet, mCh2, mCh3, mCount, dCount, Option.bind_some, Option.map_some, Option.bind_none, Option.map_none, List.getElem?_cons_zero, List.getElem?_cons_succ, List.set_cons_zero, List.set_cons_succ, List.map_cons, List.map_nil, List.cons_append, List.nil_append, List.replicate_succ, List.replicate_zero, List.length_cons, List.length_nil, if_true, if_false, reduceIte, Bool.false_eq_true, Bool.not_true, Bool.not_false, decide_true, decide_false, dEq_int, c1, decide_false]
  obtain ⟨w2, hw2, e⟩ := key
  obtain ⟨r, w', S', e2, r0, r1, r2⟩ := drawB hw2 hn h1 h2
  refine ⟨r, w', ?_, r0, r1, r2⟩
  show ((mDraw [.stt, .val (.int many), .no] w).bind fun r => (flD r.1).map fun d => (d, r.2.2)) = _
  rw [e, e2]
  rfl

/-! ### ranges, loops -/
theorem rngD_succ (lo c : Int) (n : Nat) : rngD lo c (n + 1) = .int lo :: rngD (lo + c) c n := by
  unfold rngD
  rw [List.range_succ_eq_map, List.map_cons, List.map_map]
  congr 1
  · simp
  · refine List.map_congr_left fun k _ => ?_
    simp only [Function.comp]
    congr 1
    rw [Nat.succ_eq_add_one, Int.natCast_add, Int.add_mul]
    omega
theorem rngD_zero (lo c : Int) : rngD lo c 0 = [] := rfl
theorem rngD_last (lo c : Int) (n : Nat) : rngD lo c (n + 1) = rngD lo c n ++ [.int (lo + (n : Nat) * c)] := by
  unfold rngD
  rw [List.range_succ, List.map_append]
  rfl
theorem smallI_of {i : Int} (h1 : -1000000000 ≤ i) (h2 : i ≤ 1000000000) : smallI i = true := decide_eq_true (by omega)
/-- a loop over lo, lo + 1, ..: an invariant by the turn -/
theorem for_rng {p : MG} {b : MS} {n : Nat} {lo : Int} (E : Nat → SEnv) (W : Nat → Drw) (h : ∀ k, k < n → ∃ S1, p (.int (lo + (k : Nat))) (E k) = some S1 ∧ b S1 (W k) = some (.nx, E (k + 1), W (k + 1))) : forGo p b (rngD lo 1 n) (E 0) (W 0) = some (.nx, E n, W n) := by
  induction n generalizing lo E W with
  | zero => rfl
  | succ n ih =>
    obtain ⟨S1, h1, h2⟩ := h 0 (Nat.succ_pos n)
    rw [rngD_succ, forGo_cons]
    have h1' : p (.int lo) (E 0) = some S1 := by simpa using h1
    rw [h1', Option.bind_some, h2, Option.bind_some]
    refine ih (fun k => E (k + 1)) (fun k => W (k + 1)) fun k hk => ?_
    obtain ⟨S2, h3, h4⟩ := h (k + 1) (by omega)
    refine ⟨S2, ?_, h4⟩
    rw [← h3]
    congr 2
    omega
/-- a comprehension without draws -/
theorem lc_map {p : MG} {e : ME} {S : SEnv} {w : Drw} {f : PyData → PyData} : ∀ {ds : List PyData}, (∀ d ∈ ds, ∃ S1, p d S = some S1 ∧ e S1 w = some (f d, w)) → lcGo p mYes e S ds w = some (ds.map f, w)
  | [], _ => rfl
  | d :: ds, h => by
    obtain ⟨S1, h1, h2⟩ := h d List.mem_cons_self
    rw [lcGo_cons, h1, Option.bind_some, show mYes S1 w = some (true, w) from rfl, Option.bind_some, if_pos rfl, h2, Option.bind_some, lc_map fun x hx => h x (List.mem_cons_of_mem _ hx)]
    rfl
theorem lc_filter {p : MG} {t : MT} {e : ME} {S : SEnv} {w : Drw} {f : PyData → PyData} {c : PyData → Bool} : ∀ {ds : List PyData}, (∀ d ∈ ds, ∃ S1, p d S = some S1 ∧ t S1 w = some (c d, w) ∧ (c d = true → e S1 w = some (f d, w))) → lcGo p t e S ds w = some ((ds.filter c).map f, w)
  | [], _ => rfl
  | d :: ds, h => by
    obtain ⟨S1, h1, h2, h3⟩ := h d List.mem_cons_self
    rw [lcGo_cons, h1, Option.bind_some, h2, Option.bind_some]
    cases hc : c d with
    | true =>
      rw [if_pos rfl, h3 hc, Option.bind_some, lc_filter fun x hx => h x (List.mem_cons_of_mem _ hx), List.filter_cons_of_pos hc]
      rfl
    | false =>
      rw [if_neg Bool.false_ne_true, lc_filter fun x hx => h x (List.mem_cons_of_mem _ hx), List.filter_cons_of_neg (by rw [hc]; exact Bool.false_ne_true)]
/-- ints in, over a range -/
theorem lc_rng {p : MG} {e : ME} {S : SEnv} {w : Drw} {lo : Int} {n : Nat} {f : Int → PyData} (h : ∀ k : Nat, k < n → ∃ S1, p (.int (lo + (k : Nat))) S = some S1 ∧ e S1 w = some (f (lo + (k : Nat)), w)) : lcGo p mYes e S (rngD lo 1 n) w = some ((List.range n).map (fun (k : Nat) => f (lo + (k : Nat))), w) := by
  induction n generalizing lo with
  | zero => rfl
  | succ n ih =>
    obtain ⟨S1, h1, h2⟩ := h 0 (Nat.succ_pos n)
    rw [rngD_succ, lcGo_cons]
    have z : lo + ((0 : Nat) : Int) = lo := by simp
    rw [z] at h1 h2
    rw [h1, Option.bind_some, show mYes S1 w = some (true, w) from rfl, Option.bind_some, if_pos rfl, h2, Option.bind_some, ih fun k hk => ?_]
    · rw [List.range_succ_eq_map, List.map_cons, List.map_map, z]
      show some (_, _) = _
      congr 3
      refine List.map_congr_left fun k _ => ?_
      simp only [Function.comp]
      congr 1
      omega
    · obtain ⟨S2, h3, h4⟩ := h (k + 1) (by omega)
      have e1 : lo + ((k + 1 : Nat) : Int) = lo + 1 + (k : Nat) := by omega
      rw [e1] at h3 h4
      exact ⟨S2, h3, h4⟩
theorem lc_rngF {p : MG} {t : MT} {e : ME} {S : SEnv} {w : Drw} {lo : Int} {n : Nat} {c : Int → Bool} {f : Int → PyData} (h : ∀ k : Nat, k < n → ∃ S1, p (.int (lo + (k : Nat))) S = some S1 ∧ t S1 w = some (c (lo + (k : Nat)), w) ∧ (c (lo + (k : Nat)) = true → e S1 w = some (f (lo + (k : Nat)), w))) :
    lcGo p t e S (rngD lo 1 n) w = some ((((List.range n).map fun (k : Nat) => lo + (k : Nat)).filter c).map f, w) := by
  induction n generalizing lo with
  | zero => rfl
  | succ n ih =>
    obtain ⟨S1, h1, h2, h3⟩ := h 0 (Nat.succ_pos n)
    have z : lo + ((0 : Nat) : Int) = lo := by simp
    rw [z] at h1 h2 h3
    have hr : (List.range (n + 1)).map (fun (k : Nat) => lo + (k : Nat)) = lo :: (List.range n).map fun (k : Nat) => lo + 1 + (k : Nat) := by
      rw [List.range_succ_eq_map, List.map_cons, List.map_map, z]
      congr 1
      refine List.map_congr_left fun k _ => ?_
      simp only [Function.comp]
      omega
    have ih' := ih (lo := lo + 1) fun k hk => by
      have hh := h (k + 1) (by omega)
      have e1 : lo + ((k + 1 : Nat) : Int) = lo + 1 + (k : Nat) := by omega
      rw [e1] at hh
      exact hh
    rw [rngD_succ, lcGo_cons, h1, Option.bind_some, h2, Option.bind_some, hr]
    cases hc : c lo with
    | true =>
      rw [if_pos rfl, h3 hc, Option.bind_some, ih', List.filter_cons_of_pos hc]
      rfl
    | false =>
      rw [if_neg Bool.false_ne_true, ih', List.filter_cons_of_neg (by rw [hc]; exact Bool.false_ne_true)]
/-! ### indices -/
theorem ix_nat {xs : List PyData} {k : Nat} (h : k < xs.length) : dIx (.list xs) (.int (k : Int)) = some xs[k] := by
  show atI xs (k : Int) = _
  unfold atI
  rw [ixN_nat h]
  exact List.getElem?_eq_getElem h
theorem ixT_nat {xs : List PyData} {k : Nat} (h : k < xs.length) : dIx (.tuple xs) (.int (k : Int)) = some xs[k] := by
  show atI xs (k : Int) = _
  unfold atI
  rw [ixN_nat h]
  exact List.getElem?_eq_getElem h
theorem ix_ints {R : List Int} {k : Nat} (h : k < R.length) : dIx (.list (R.map .int)) (.int (k : Int)) = some (.int (R.getD k 0)) := by
  rw [ix_nat (by rw [List.length_map]; exact h), List.getElem_map, List.getD_eq_getElem?_getD, List.getElem?_eq_getElem h]
  rfl
theorem ixT_ints {R : List Int} {k : Nat} (h : k < R.length) : dIx (.tuple (R.map .int)) (.int (k : Int)) = some (.int (R.getD k 0)) := by
  rw [ixT_nat (by rw [List.length_map]; exact h), List.getElem_map, List.getD_eq_getElem?_getD, List.getElem?_eq_getElem h]
  rfl
/-- the last -/
theorem ix_last {xs : List PyData} {d : PyData} : dIx (.list (xs ++ [d])) (.int (-1)) = some d := by
  show atI (xs ++ [d]) (-1) = _
  exact atI_last _ _
theorem ixT_last {xs : List PyData} {d : PyData} : dIx (.tuple (xs ++ [d])) (.int (-1)) = some d := by
  show atI (xs ++ [d]) (-1) = _
  exact atI_last _ _
theorem mulOk_r {i j : Int} (h1 : 0 ≤ j) (h2 : j < 2 ^ 64) : mulOk i j := .inr (.inl (by omega))
theorem mulOk_l {i j : Int} (h1 : 0 ≤ i) (h2 : i < 2 ^ 64) : mulOk i j := .inl (by omega)
/-- good factors: below 2 ^ 8999 -/
def bigZ : Int := 2 ^ 9000
theorem bigZ_nat {i : Int} (h1 : 0 ≤ i) (h2 : i < bigZ) : i.natAbs < bigN := by
  unfold bigZ at h2
  have e : ((bigN : Nat) : Int) = 2 ^ 9000 := by unfold bigN; exact Int.natCast_pow 2 9000
  rw [← e] at h2
  omega
theorem mulOk_b {i j : Int} (h1 : 0 ≤ i) (h2 : i < bigZ) (h3 : 0 ≤ j) (h4 : j < bigZ) : mulOk i j := .inr (.inr ⟨bigZ_nat h1 h2, bigZ_nat h3 h4⟩)
theorem small_bigZ {i : Int} (h : i < 2 ^ 64) : i < bigZ := Int.lt_of_lt_of_le h (by
  unfold bigZ
  have h1 : (2 : Nat) ^ 64 ≤ 2 ^ 9000 := Nat.pow_le_pow_right (by decide) (by decide)
  have e1 : ((2 ^ 64 : Nat) : Int) = 2 ^ 64 := Int.natCast_pow 2 64
  have e2 : ((2 ^ 9000 : Nat) : Int) = 2 ^ 9000 := Int.natCast_pow 2 9000
  rw [← e1, ← e2]
  exact Int.ofNat_le.mpr h1)
theorem dMul_of {i j : Int} (h : mulOk i j) : dMul (.int i) (.int j) = some (.int (i * j)) := if_pos h
theorem dDiv_of {i j : Int} (h : 0 < j) (h2 : j < bigZ) : dDiv (.int i) (.int j) = some (.int (i / j)) := if_pos ⟨h, bigZ_nat (Int.le_of_lt h) h2⟩
theorem dMod_of {i j : Int} (h : 0 < j) : dMod (.int i) (.int j) = some (.int (i % j)) := if_pos h
/-! ### Euclid -/
theorem euclid {T : MT} {B : MS} {mk : Int → Int → SEnv} {w : Drw} {M : Int} (hT : ∀ a b, T (mk a b) w = some (b != 0, w)) (hB : ∀ a b, 0 ≤ a → a < M → 0 < b → b < M → B (mk a b) w = some (.nx, mk b (a % b), w)) :
    ∀ (k n : Nat) (a b : Int), 0 ≤ a → a < M → 0 ≤ b → b < M → b < 2 ^ k → 2 * k + 1 ≤ n → whGo T B n (mk a b) w = some (.nx, mk (Int.gcd a b) 0, w) := by
  have stop : ∀ (n : Nat) (a : Int), 0 ≤ a → 1 ≤ n → whGo T B n (mk a 0) w = some (.nx, mk (Int.gcd a 0) 0, w) := fun n a ha hn => by
    obtain ⟨m, rfl⟩ : ∃ m, n = m + 1 := ⟨n - 1, by omega⟩
    rw [whGo_succ, hT, Option.bind_some]
    have e : ((0 : Int) != 0) = false := by decide
    rw [e, if_neg Bool.false_ne_true, Int.gcd_zero_right, Int.natAbs_of_nonneg ha]
  have step : ∀ (n : Nat) (a b : Int), 0 ≤ a → a < M → 0 < b → b < M → whGo T B (n + 1) (mk a b) w = whGo T B n (mk b (a % b)) w := fun n a b ha haM hb hbM => by
    rw [whGo_succ, hT, Option.bind_some]
    have e : (b != 0) = true := by simp; omega
    rw [e, if_pos rfl, hB a b ha haM hb hbM, Option.bind_some]
  have gcd_step : ∀ a b : Int, 0 ≤ a → 0 ≤ b → Int.gcd a b = Int.gcd b (a % b) := fun a b ha hb => by
    obtain ⟨m, rfl⟩ := Int.eq_ofNat_of_zero_le ha
    obtain ⟨n, rfl⟩ := Int.eq_ofNat_of_zero_le hb
    show Nat.gcd m n = Nat.gcd n (m % n)
    rw [Nat.gcd_comm m n, Nat.gcd_rec n m, Nat.gcd_comm]
  intro k
  induction k with
  | zero =>
    intro n a b ha haM hb hbM hk hn
    have e : b = 0 := by
      have : (2 : Int) ^ 0 = 1 := rfl
      omega
    subst e
    exact stop n a ha (by omega)
  | succ k ih =>
    intro n a b ha haM hb hbM hk hn
    by_cases h0 : b = 0
    · subst h0; exact stop n a ha (by omega)
    · have hb' : 0 < b := by omega
      obtain ⟨m, rfl⟩ : ∃ m, n = m + 2 := ⟨n - 2, by omega⟩
      rw [step (m + 1) a b ha haM hb' hbM, gcd_step a b ha hb]
      have r0 : 0 ≤ a % b := Int.emod_nonneg _ (by omega)
      have r1 : a % b < b := Int.emod_lt_of_pos _ hb'
      by_cases h1 : a % b = 0
      · rw [h1]; exact stop (m + 1) b hb (by omega)
      · have hr : 0 < a % b := by omega
        rw [step m b (a % b) hb hbM hr (by omega), gcd_step b (a % b) hb r0]
        have s0 : 0 ≤ b % (a % b) := Int.emod_nonneg _ (by omega)
        have s1 : b % (a % b) < a % b := Int.emod_lt_of_pos _ hr
        have s2 : a % b + b % (a % b) ≤ b := by
          have q := Int.mul_ediv_add_emod b (a % b)
          have q1 : 1 ≤ b / (a % b) := by
            have := (Int.le_ediv_iff_mul_le (a := 1) (b := b) hr).mpr (by omega)
            exact this
          have q2 : a % b * 1 ≤ a % b * (b / (a % b)) := Int.mul_le_mul_of_nonneg_left q1 r0
          omega
        refine ih m (a % b) (b % (a % b)) r0 (by omega) s0 (by omega) ?_ (by omega)
        have e2 : (2 : Int) ^ (k + 1) = 2 ^ k * 2 := Int.pow_succ 2 k
        omega
end Mini

set_option Elab.async false
set_option linter.all false
set_option maxRecDepth 100000
set_option maxHeartbeats 4000000
/-! Mini T: models' answers, plain: comprehensions and loops over mapped lists, equality, least and greatest of ints, draws. -/
namespace Mini
open PySem PySem.Spec PyProof.Rows L2

theorem seq_nx {a b : MS} {S S1 : SEnv} {w w1 : Drw} (h : a S w = some (.nx, S1, w1)) : sSeq a b S w = b S1 w1 := by
  unfold sSeq
  rw [h]
  rfl
theorem seq_rt {a b : MS} {S S1 : SEnv} {w w1 : Drw} {d : PyData} (h : a S w = some (.rt d, S1, w1)) : sSeq a b S w = some (.rt d, S1, w1) := by
  unfold sSeq
  rw [h]
  rfl
theorem if_no {t : MT} {a : MS} {S : SEnv} {w w1 : Drw} (h : t S w = some (false, w1)) : sIf t a sNx S w = some (.nx, S, w1) := by
  unfold sIf
  rw [h]
  rfl
theorem if_yes {t : MT} {a b : MS} {S : SEnv} {w w1 : Drw} (h : t S w = some (true, w1)) : sIf t a b S w = a S w1 := by
  unfold sIf
  rw [h]
  rfl
theorem if_not {t : MT} {a b : MS} {S : SEnv} {w w1 : Drw} (h : t S w = some (false, w1)) : sIf t a b S w = b S w1 := by
  unfold sIf
  rw [h]
  rfl
theorem dEq_refl {d : PyData} (h8 : shp 8 d = true) : dEq d d = some (.bool true) := by
  unfold dEq
  rw [if_pos ⟨h8, h8⟩, SeqAt.eqv_refl_plain d (shp_plain 8 d h8).1]
theorem dNe_refl {d : PyData} (h8 : shp 8 d = true) : dNe d d = some (.bool false) := by
  unfold dNe
  rw [if_pos ⟨h8, h8⟩, SeqAt.eqv_refl_plain d (shp_plain 8 d h8).1]
  rfl
theorem lc_as {α : Type} {p : MG} {e : ME} {S : SEnv} {w : Drw} {g f : α → PyData} : ∀ {ks : List α}, (∀ k ∈ ks, ∃ S1, p (g k) S = some S1 ∧ e S1 w = some (f k, w)) → lcGo p mYes e S (ks.map g) w = some (ks.map f, w)
  | [], _ => rfl
  | k :: ks, h => by
    obtain ⟨S1, h1, h2⟩ := h k List.mem_cons_self
    rw [List.map_cons, lcGo_cons, h1, Option.bind_some, show mYes S1 w = some (true, w) from rfl, Option.bind_some, if_pos rfl, h2, Option.bind_some, lc_as fun x hx => h x (List.mem_cons_of_mem _ hx)]
    rfl
theorem lc_asF {α : Type} {p : MG} {t : MT} {e : ME} {S : SEnv} {w : Drw} {g f : α → PyData} {c : α → Bool} : ∀ {ks : List α}, (∀ k ∈ ks, ∃ S1, p (g k) S = some S1 ∧ t S1 w = some (c k, w) ∧ (c k = true → e S1 w = some (f k, w))) → lcGo p t e S (ks.map g) w = some ((ks.filter c).map f, w)
  | [], _ => rfl
  | k :: ks, h => by
    obtain ⟨S1, h1, h2, h3⟩ := h k List.mem_cons_self
    have ih := lc_asF (ks := ks) fun x hx => h x (List.mem_cons_of_mem _ hx)
    rw [List.map_cons, lcGo_cons, h1, Option.bind_some, h2, Option.bind_some]
    cases hc : c k with
    | true =>
      rw [if_pos rfl, h3 hc, Option.bind_some, ih, List.filter_cons_of_pos hc]
      rfl
    | false =>
      rw [if_neg Bool.false_ne_true, ih, List.filter_cons_of_neg (by rw [hc]; exact Bool.false_ne_true)]
theorem rngD_0 (n : Nat) : rngD 0 1 n = (List.range n).map fun k => .int ((k : Nat) : Int) := by
  unfold rngD
  refine List.map_congr_left fun k _ => ?_
  congr 1; omega
theorem rngD_lo (lo : Int) (n : Nat) : rngD lo 1 n = ((List.range n).map fun k => lo + ((k : Nat) : Int)).map .int := by
  unfold rngD
  rw [List.map_map]
  refine List.map_congr_left fun k _ => ?_
  simp
/-- a loop: f the state's step, E the slots by the state -/
theorem for_fold {α τ : Type} {p : MG} {b : MS} {g : α → PyData} {E : τ → SEnv} {w : Drw} {f : τ → α → τ} (P : τ → List α → Prop) (h : ∀ s x xs, P s (x :: xs) → (∃ S1, p (g x) (E s) = some S1 ∧ b S1 w = some (.nx, E (f s x), w)) ∧ P (f s x) xs) :
    ∀ (ks : List α) (s : τ), P s ks → forGo p b (ks.map g) (E s) w = some (.nx, E (ks.foldl f s), w) ∧ P (ks.foldl f s) []
  | [], s, hp => ⟨rfl, hp⟩
  | x :: xs, s, hp => by
    obtain ⟨⟨S1, h1, h2⟩, h3⟩ := h s x xs hp
    have ih := for_fold P h xs (f s x) h3
    rw [List.map_cons, forGo_cons, h1, Option.bind_some, h2]
    exact ih
theorem eqv_row : ∀ (x y : List Int), PyData.eqvAll (x.map .int) (y.map .int) = decide (x = y)
  | [], [] => by simp [PyData.eqvAll]
  | [], _ :: _ => by simp [PyData.eqvAll]
  | _ :: _, [] => by simp [PyData.eqvAll]
  | a :: x, b :: y => by
    simp only [List.map_cons, PyData.eqvAll, eqv_int, eqv_row x y, List.cons.injEq]
    by_cases h : a = b <;> simp [h]
theorem eqv_tup (x y : List Int) : PyData.eqv (.tuple (x.map .int)) (.tuple (y.map .int)) = decide (x = y) := by
  simp only [PyData.eqv]
  exact eqv_row x y
theorem shp_ints (n : Nat) (x : List Int) : (x.map PyData.int).all (shp n) = true := by
  rw [List.all_map]
  exact List.all_eq_true.mpr fun _ _ => by cases n <;> rfl
theorem alikeB_ints (x : List Int) : alikeB (x.map .int) = true := by
  unfold alikeB
  refine List.all_eq_true.mpr fun a ha => ?_
  obtain ⟨i, _, rfl⟩ := List.mem_map.mp ha
  rw [Bool.and_eq_true]
  refine ⟨rfl, List.all_eq_true.mpr fun b hb => ?_⟩
  obtain ⟨j, _, rfl⟩ := List.mem_map.mp hb
  rfl
theorem best_min (x : Int) (xs : List Int) : dBest PySem.W.minD [.list ((x :: xs).map .int)] = some (.int (xs.foldl min x)) := by
  show (if alikeB ((x :: xs).map .int) = true ∧ ((x :: xs).map PyData.int).all (shp 8) = true then some (PySem.W.minD (.int x) (xs.map .int)) else none) = _
  rw [if_pos ⟨alikeB_ints _, shp_ints 8 _⟩, PySem.W.minD_ints]
theorem best_max (x : Int) (xs : List Int) : dBest PySem.W.maxD [.list ((x :: xs).map .int)] = some (.int (xs.foldl max x)) := by
  show (if alikeB ((x :: xs).map .int) = true ∧ ((x :: xs).map PyData.int).all (shp 8) = true then some (PySem.W.maxD (.int x) (xs.map .int)) else none) = _
  rw [if_pos ⟨alikeB_ints _, shp_ints 8 _⟩, PySem.W.maxD_ints]
theorem foldl_min_of {l : Int} : ∀ (xs : List Int) (x : Int), l ≤ x → (∀ y ∈ xs, l ≤ y) → (l = x ∨ l ∈ xs) → xs.foldl min x = l
  | [], x, _, _, h => by
    rcases h with h | h
    · exact h.symm
    · cases h
  | y :: ys, x, h1, h2, h => by
    have hy := h2 y List.mem_cons_self
    refine foldl_min_of ys (min x y) (by omega) (fun z hz => h2 z (List.mem_cons_of_mem _ hz)) ?_
    rcases h with h | h
    · exact .inl (by omega)
    · rcases List.mem_cons.mp h with h | h
      · exact .inl (by omega)
      · exact .inr h
theorem foldl_max_of {l : Int} : ∀ (xs : List Int) (x : Int), x ≤ l → (∀ y ∈ xs, y ≤ l) → (l = x ∨ l ∈ xs) → xs.foldl max x = l
  | [], x, _, _, h => by
    rcases h with h | h
    · exact h.symm
    · cases h
  | y :: ys, x, h1, h2, h => by
    have hy := h2 y List.mem_cons_self
    refine foldl_max_of ys (max x y) (by omega) (fun z hz => h2 z (List.mem_cons_of_mem _ hz)) ?_
    rcases h with h | h
    · exact .inl (by omega)
    · rcases List.mem_cons.mp h with h | h
      · exact .inl (by omega)
      · exact .inr h
theorem min_is {xs : List Int} {l : Int} (h1 : ∀ y ∈ xs, l ≤ y) (h2 : l ∈ xs) : dBest PySem.W.minD [.list (xs.map .int)] = some (.int l) := by
  cases xs with
  | nil => cases h2
  | cons x xs => rw [best_min, foldl_min_of xs x (h1 x List.mem_cons_self) (fun y hy => h1 y (List.mem_cons_of_mem _ hy)) (List.mem_cons.mp h2)]
theorem max_is {xs : List Int} {l : Int} (h1 : ∀ y ∈ xs, y ≤ l) (h2 : l ∈ xs) : dBest PySem.W.maxD [.list (xs.map .int)] = some (.int l) := by
  cases xs with
  | nil => cases h2
  | cons x xs => rw [best_max, foldl_max_of xs x (h1 x List.mem_cons_self) (fun y hy => h1 y (List.mem_cons_of_mem _ hy)) (List.mem_cons.mp h2)]
theorem any_rows (rows : List (List Int)) (x : List Int) : anyB (rows.map fun r => .tuple (r.map .int)) (.tuple (x.map .int)) = decide (x ∈ rows) := by
  unfold anyB
  rw [List.any_map]
  induction rows with
  | nil => simp
  | cons r rs ih =>
    rw [List.any_cons, ih]
    show (PyData.eqv (.tuple (r.map .int)) (.tuple (x.map .int)) || _) = _
    rw [eqv_tup]
    by_cases h : r = x
    · subst h; simp
    · have h' : ¬ x = r := fun z => h z.symm
      simp [h, h']
theorem any_ints (ns : List Int) (x : Int) : anyB (ns.map .int) (.int x) = decide (x ∈ ns) := by
  unfold anyB
  rw [List.any_map]
  induction ns with
  | nil => simp
  | cons r rs ih =>
    rw [List.any_cons, ih]
    show (PyData.eqv (.int r) (.int x) || _) = _
    rw [eqv_int]
    by_cases h : r = x
    · subst h; simp
    · have h' : ¬ x = r := fun z => h z.symm
      simp [h, h']
theorem shp_rows (rows : List (List Int)) : (rows.map fun r => PyData.tuple (r.map .int)).all (shp 8) = true := by
  rw [List.all_map]
  exact List.all_eq_true.mpr fun r _ => shp_ints 7 r
theorem ix_tup2_0 (a b : PyData) : dIx (.tuple [a, b]) (.int 0) = some a := rfl
theorem ix_tup2_1 (a b : PyData) : dIx (.tuple [a, b]) (.int 1) = some b := rfl
theorem ix_tup3_0 (a b c : PyData) : dIx (.tuple [a, b, c]) (.int 0) = some a := rfl
theorem ix_tup3_1 (a b c : PyData) : dIx (.tuple [a, b, c]) (.int 1) = some b := rfl
theorem ix_tup3_2 (a b c : PyData) : dIx (.tuple [a, b, c]) (.int 2) = some c := rfl
theorem runM_rt {m : Nat} {b : MS} {ds : List PyData} {d : PyData} (E : SEnv) (he : env0 m ds = E) (h : ∃ S' w', b E w0 = some (.rt d, S', w')) : runM m b ds = some d := by
  obtain ⟨S', w', h⟩ := h
  unfold runM
  rw [he, h]
  rfl
theorem runM_nx {m : Nat} {b : MS} {ds : List PyData} (E : SEnv) (he : env0 m ds = E) (h : ∃ S' w', b E w0 = some (.nx, S', w')) : runM m b ds = some .none := by
  obtain ⟨S', w', h⟩ := h
  unfold runM
  rw [he, h]
  rfl
theorem runS_rt {m : Nat} {b : MS} {ds : List PyData} {d : PyData} {w w' : Drw} (E : SEnv) (he : .stt :: env0 m ds = E) (h : ∃ S', b E w = some (.rt d, S', w')) : runS m b ds w = some (d, w') := by
  obtain ⟨S', h⟩ := h
  unfold runS
  rw [he, h]
  rfl
/-- a loop over what is told -/
theorem sFor_of {m : MA} {p : MG} {b : MS} {S S1 : SEnv} {w w1 w2 : Drw} {ds : List PyData} {fl : Fl} (h1 : m S w = some (ds, w1)) (h2 : forGo p b ds S w1 = some (fl, S1, w2)) : sFor m p b S w = some (fl, S1, w2) := by
  unfold sFor
  rw [h1]
  exact h2
theorem sWhile_of {n : Nat} {t : MT} {b : MS} {S S1 : SEnv} {w w2 : Drw} {fl : Fl} (h : whGo t b n S w = some (fl, S1, w2)) : sWhile n t b S w = some (fl, S1, w2) := h
theorem mLc_of {mi : MA} {p : MG} {t : MT} {e : ME} {vs : List Nat} {S : SEnv} {w w1 w2 : Drw} {ds rs : List PyData} (h1 : mi S w = some (ds, w1)) (h2 : lcGo p t e (wipeS S vs) ds w1 = some (rs, w2)) (hl : rs.length ≤ LB) : mLc mi p t e vs S w = some (.list rs, w2) := by
  unfold mLc
  rw [h1, Option.bind_some, h2, Option.bind_some, if_pos hl]
theorem mF1_of {g : List PyData → Option PyData} {a : ME} {S : SEnv} {w w1 : Drw} {d e : PyData} (h : a S w = some (d, w1)) (hg : g [d] = some e) : mF g (mCons a mNil) S w = some (e, w1) := by
  unfold mF mCons mNil
  simp only [h, Option.bind_some, Option.map_some, hg]
theorem mF2_of {g : List PyData → Option PyData} {a b : ME} {S : SEnv} {w w1 w2 : Drw} {d d2 e : PyData} (h : a S w = some (d, w1)) (h2 : b S w1 = some (d2, w2)) (hg : g [d, d2] = some e) : mF g (mCons a (mCons b mNil)) S w = some (e, w2) := by
  unfold mF
  simp only [mCons, mNil, h, h2, Option.bind_some, Option.map_some, hg]
theorem mF3_of {g : List PyData → Option PyData} {a b c : ME} {S : SEnv} {w w1 w2 w3 : Drw} {d d2 d3 e : PyData} (h : a S w = some (d, w1)) (h2 : b S w1 = some (d2, w2)) (h3 : c S w2 = some (d3, w3)) (hg : g [d, d2, d3] = some e) : mF g (mCons a (mCons b (mCons c mNil))) S w = some (e, w3) := by
  unfold mF
  simp only [mCons, mNil, h, h2, h3, Option.bind_some, Option.map_some, hg]
theorem mNot_of {t : MT} {S : SEnv} {w w1 : Drw} {b : Bool} (h : t S w = some (b, w1)) : mNot t S w = some (!b, w1) := by
  unfold mNot; rw [h]; rfl
theorem mTru_of {a : ME} {S : SEnv} {w w1 : Drw} {d : PyData} {b : Bool} (h : a S w = some (d, w1)) (hd : dTru d = some b) : mTru a S w = some (b, w1) := by
  unfold mTru; rw [h, Option.bind_some, hd]; rfl
theorem mB_of {a : ME} {S : SEnv} {w w1 : Drw} {b : Bool} (h : a S w = some (.bool b, w1)) : mB a S w = some (b, w1) := by
  unfold mB; rw [h]; rfl
theorem m2_of {g : PyData → PyData → Option PyData} {a b : ME} {S : SEnv} {w w1 w2 : Drw} {d d2 e : PyData} (h : a S w = some (d, w1)) (h2 : b S w1 = some (d2, w2)) (hg : g d d2 = some e) : m2 g a b S w = some (e, w2) := by
  unfold m2; rw [h, Option.bind_some, h2, Option.bind_some, hg]; rfl
theorem mOr_no {a b : MT} {S : SEnv} {w w1 : Drw} {r : Option (Bool × Drw)} (h : a S w = some (false, w1)) (h2 : b S w1 = r) : mOr a b S w = r := by
  unfold mOr; rw [h, Option.bind_some, if_neg Bool.false_ne_true, h2]
theorem mAnd_yes {a b : MT} {S : SEnv} {w w1 : Drw} {r : Option (Bool × Drw)} (h : a S w = some (true, w1)) (h2 : b S w1 = r) : mAnd a b S w = r := by
  unfold mAnd; rw [h, Option.bind_some, if_pos rfl, h2]
theorem mAnd_no {a b : MT} {S : SEnv} {w w1 : Drw} (h : a S w = some (false, w1)) : mAnd a b S w = some (false, w1) := by
  unfold mAnd; rw [h, Option.bind_some, if_neg Bool.false_ne_true]
theorem sAsg_of {e : ME} {p : MG} {S S1 : SEnv} {w w1 : Drw} {d : PyData} (h : e S w = some (d, w1)) (hp : p d S = some S1) : sAsg e p S w = some (.nx, S1, w1) := by
  unfold sAsg; rw [h, Option.bind_some, hp]; rfl
theorem sRet_of {e : ME} {S : SEnv} {w w1 : Drw} {d : PyData} (h : e S w = some (d, w1)) : sRet e S w = some (.rt d, S, w1) := by
  unfold sRet; rw [h]; rfl
theorem sDrop_of {e : ME} {S : SEnv} {w w1 : Drw} {d : PyData} (h : e S w = some (d, w1)) : sDrop e S w = some (.nx, S, w1) := by
  unfold sDrop; rw [h]; rfl
theorem mAndV_yes {a b : ME} {S : SEnv} {w w1 : Drw} {r : Option (PyData × Drw)} (h : a S w = some (.bool true, w1)) (h2 : b S w1 = r) : mAndV a b S w = r := by
  unfold mAndV; rw [h]; exact h2
theorem mAndV_no {a b : ME} {S : SEnv} {w w1 : Drw} (h : a S w = some (.bool false, w1)) : mAndV a b S w = some (.bool false, w1) := by
  unfold mAndV; rw [h]; rfl
theorem mOrV_yes {a b : ME} {S : SEnv} {w w1 : Drw} (h : a S w = some (.bool true, w1)) : mOrV a b S w = some (.bool true, w1) := by
  unfold mOrV; rw [h]; rfl
theorem mOrV_no {a b : ME} {S : SEnv} {w w1 : Drw} {r : Option (PyData × Drw)} (h : a S w = some (.bool false, w1)) (h2 : b S w1 = r) : mOrV a b S w = r := by
  unfold mOrV; rw [h]; exact h2
theorem mTup2_of {a b : ME} {S : SEnv} {w w1 w2 : Drw} {d d2 : PyData} (h : a S w = some (d, w1)) (h2 : b S w1 = some (d2, w2)) : mTup (mCons a (mCons b mNil)) S w = some (.tuple [d, d2], w2) := by
  have l2 : ([d, d2] : List PyData).length ≤ LB := by show 2 ≤ 1000000; decide
  unfold mTup
  simp only [mCons, mNil, h, h2, Option.bind_some, Option.map_some, if_pos l2]
theorem mLst2_of {a b : ME} {S : SEnv} {w w1 w2 : Drw} {d d2 : PyData} (h : a S w = some (d, w1)) (h2 : b S w1 = some (d2, w2)) : mLst (mCons a (mCons b mNil)) S w = some (.list [d, d2], w2) := by
  have l2 : ([d, d2] : List PyData).length ≤ LB := by show 2 ≤ 1000000; decide
  unfold mLst
  simp only [mCons, mNil, h, h2, Option.bind_some, Option.map_some, if_pos l2]
theorem cutD_take {xs : List PyData} {n : Nat} (h : n ≤ xs.length) : Mini.cutD xs none (some ((n : Nat) : Int)) = xs.take n := by
  unfold Mini.cutD
  rw [HT.sIx_none, HT.sIx_nat, Nat.min_eq_left h, List.drop_zero, Nat.sub_zero]
theorem cutD_drop {xs : List PyData} {n : Nat} (h : n ≤ xs.length) : Mini.cutD xs (some ((n : Nat) : Int)) none = xs.drop n := by
  unfold Mini.cutD
  rw [HT.sIx_none, HT.sIx_nat, Nat.min_eq_left h, List.take_of_length_le (by rw [List.length_drop]; exact Nat.le_refl _)]
end Mini

set_option Elab.async false
set_option linter.all false
set_option maxRecDepth 100000
set_option maxHeartbeats 4000000
namespace K64
open PySem PySem.Spec PyProof.Rows L2 Mini
def m_L_draw : MS := (sSeq (sIf (mAnd (mB (m2 dEq (mSt 0 3) (mC (.int 0)))) (mB (m2 dLt (mSt 0 1) (mStLen 0))))
    (sSt3 0 2 3 1 (mCons (mStCell 0 (mSt 0 1)) (mCons (mC (.int 60)) (mCons (m2 dAdd (mSt 0 1) (mC (.int 1))) mNil)))) sNx)
    (sSeq (sIf (mB (m2 dGt (mSt 0 3) (mC (.int 0))))
    (sSeq (sAsg (m2 dMod (mF dInt (mCons (mSt 0 2) mNil)) (mLook 1)) (pName 2))
    (sSeq (sSt 0 2 (m2 dDiv (mSt 0 2) (mLook 1)))
    (sSeq (sSt 0 3 (mIte (mB (m2 dGt (mSt 0 2) (mC (.int 0)))) (m2 dSub (mSt 0 3) (mC (.int 1))) (mC (.int 0))))
    (sRet (mLook 2))))) sNx)
    (sSeq (sSt 0 5 (m2 dAdd (mSt 0 5) (mC (.int 1))))
    (sSeq (sSt 0 4 (m2 dMod (mF dInt (mCons (m2 dAdd (m2 dAdd (m2 dMul (mSt 0 4) (mC (.int 48271))) (m2 dMul (m2 dMul (mSt 0 5) (mSt 0 5)) (mC (.int 69621)))) (mC (.int 11))) mNil)) (mC (.int 2147483647))))
    (sRet (m2 dMod (mF dInt (mCons (m2 dDiv (mSt 0 4) (mC (.int 13))) mNil)) (mLook 1)))))))
def G_L_draw : List PyData → Drw → Option (PyData × Drw) := runS 1 m_L_draw
def m_L_finds : MS := (sSeq (sParF3 false true true 2 3 4 (mLc (mRng1 (mCons (mVar 1) mNil)) (pName 5) mYes (mFS 0 1 G_L_draw (mCons (mC (.int 9)) mNil)) [5]) (mLst mNil) (mLst mNil))
    (sSeq (sFor (mRng1 (mCons (mVar 1) mNil)) (pName 5)
    (sApp 3 (mTup (mCons (m2 dSub (m2 dIx (mLook 2) (mLook 5)) (mFS 0 1 G_L_draw (mCons (mC (.int 4)) mNil))) (mCons (m2 dAdd (m2 dIx (mLook 2) (mLook 5)) (mFS 0 1 G_L_draw (mCons (mC (.int 4)) mNil))) mNil)))))
    (sSeq (sFor (mRng1 (mCons (mFS 0 1 G_L_draw (mCons (mC (.int 5)) mNil)) mNil)) (pName 6)
    (sSeq (sPar 7 8 (mCons (mFS 0 1 G_L_draw (mCons (mVar 1) mNil)) (mCons (mFS 0 1 G_L_draw (mCons (mVar 1) mNil)) mNil)))
    (sExt 4 (mIte (mB (m2 dNe (mLook 7) (mLook 8))) (mLst (mCons (mTup (mCons (mVar 7) (mCons (mVar 8) (mCons (m2 dAdd (m2 dSub (m2 dSub (m2 dIx (mLook 2) (mLook 8)) (m2 dIx (mLook 2) (mLook 7))) (mFS 0 1 G_L_draw (mCons (mC (.int 3)) mNil))) (mIte (mB (m2 dEq (mFS 0 1 G_L_draw (mCons (mC (.int 4)) mNil)) (mC (.int 0)))) (mFS 0 1 G_L_draw (mCons (mC (.int 3)) mNil)) (mC (.int 0)))) mNil)))) mNil)) (mLst mNil)))))
    (sRet (mTup (mCons (mF dTuple (mCons (mLook 3) mNil)) (mCons (mF dTuple (mCons (mLook 4) mNil)) mNil)))))))
def G_L_finds : List PyData → Drw → Option (PyData × Drw) := runS 7 m_L_finds
def m_L_all_years : MS := (sSeq (sAsg (mLst (mCons (mTup mNil) mNil)) (pName 2))
    (sSeq (sFor (mItems (mVar 0)) (pTup (pCons (pName 3) (pCons (pName 4) pNil)))
    (sSeq (sOwn 5 (mLst mNil))
    (sSeq (sFor (mItems (mVar 2)) (pName 6)
    (sExt 5 (mLc (mRng2 (mCons (mVar 3) (mCons (m2 dAdd (mLook 4) (mC (.int 1))) mNil))) (pName 7) mYes (m2 dAdd (mLook 6) (mTup (mCons (mVar 7) mNil))) [7])))
    (sFrz 5 (sAsg (mVar 5) (pName 2))))))
    (sRet (mLc (mItems (mLook 2)) (pName 7) (mB (m2 dEq (mLc (mItems (mLook 1)) (pTup (pCons (pName 8) (pCons (pName 9) (pCons (pName 10) pNil)))) (mB (m2 dLt (m2 dSub (m2 dIx (mLook 7) (mLook 9)) (m2 dIx (mLook 7) (mLook 8))) (mLook 10))) (mC (.int 1)) [8, 9, 10]) (mLst mNil))) (mVar 7) [7]))))
def G_L_all_years : List PyData → Option PyData := runM 9 m_L_all_years
def m_L_order : MS := (sSeq (sParF false true 1 2 (mF dList (mCons (mLook 1) mNil)) (mLst mNil))
    (sSeq (sFor (mRng1 (mCons (mF dLenX (mCons (mLook 1) mNil)) mNil)) (pName 3)
    (sSeq (sAsg (mFS 0 1 G_L_draw (mCons (mF dLenX (mCons (mLook 1) mNil)) mNil)) (pName 4))
    (sSeq (sApp 2 (m2 dIx (mLook 1) (mLook 4)))
    (sAsg (m2 dAdd (mCut (mLook 1) mNoP (mPt (mVar 4))) (mCut (mLook 1) (mPt (m2 dAdd (mLook 4) (mC (.int 1)))) mNoP)) (pName 1)))))
    (sRet (mLook 2))))
def G_L_order : List PyData → Drw → Option (PyData × Drw) := runS 3 m_L_order
def m_is_integer : MS := (sRet (mAndV (mIsi "int" (mLook 0)) (mV (mNot (mTru (mIsi "bool" (mLook 0)))))))
def G_is_integer : List PyData → Option PyData := runM 0 m_is_integer
def m_is_year : MS := (sRet (mAndV (mF (cal 1 G_is_integer) (mCons (mVar 0) mNil)) (mCh2 dLe dLe (mNeg (mC (.int 5000))) (mLook 0) (mC (.int 5000)))))
def G_is_year : List PyData → Option PyData := runM 0 m_is_year
def m_is_gap : MS := (sSeq (sIf (mOr (mNot (mTru (mIsi "tuple" (mLook 0)))) (mOr (mB (m2 dNe (mF dLenX (mCons (mLook 0) mNil)) (mC (.int 3)))) (mNot (mTru (mF dAll (mCons (mLc (mItems (mLook 0)) (pName 5) mYes (mF (cal 1 G_is_integer) (mCons (mVar 5) mNil)) [5]) mNil))))))
    (sRet (mC (.bool false))) sNx)
    (sSeq (sAsg (mVar 0) (pTup (pCons (pName 2) (pCons (pName 3) (pCons (pName 4) pNil)))))
    (sRet (mAndV (mCh2 dLe dLt (mC (.int 0)) (mLook 2) (mF dLenX (mCons (mLook 1) mNil))) (mAndV (mCh2 dLe dLt (mC (.int 0)) (mLook 3) (mF dLenX (mCons (mLook 1) mNil))) (mAndV (m2 dNe (mLook 2) (mLook 3)) (mF (cal 1 G_is_year) (mCons (mVar 4) mNil))))))))
def G_is_gap : List PyData → Option PyData := runM 4 m_is_gap
def m_check_layers : MS := (sSeq (sIf (mOr (mNot (mTru (mIsi "tuple" (mLook 0)))) (mB (m2 dGt (mF dLenX (mCons (mLook 0) mNil)) (mC (.int 30)))))
    sNo sNx)
    (sSeq (sFor (mItems (mVar 0)) (pName 2)
    (sSeq (sIf (mOr (mNot (mTru (mIsi "tuple" (mLook 2)))) (mOr (mB (m2 dNe (mF dLenX (mCons (mLook 2) mNil)) (mC (.int 2)))) (mNot (mTru (mF dAll (mCons (mLc (mItems (mLook 2)) (pName 3) mYes (mF (cal 1 G_is_year) (mCons (mVar 3) mNil)) [3]) mNil))))))
    sNo sNx)
    (sIf (mB (m2 dGt (m2 dIx (mLook 2) (mC (.int 0))) (m2 dIx (mLook 2) (mC (.int 1)))))
    sNo sNx)))
    (sIf (mOr (mNot (mTru (mIsi "tuple" (mLook 1)))) (mOr (mB (m2 dGt (mF dLenX (mCons (mLook 1) mNil)) (mC (.int 60)))) (mNot (mTru (mF dAll (mCons (mLc (mItems (mLook 1)) (pName 3) mYes (mF (cal 2 G_is_gap) (mCons (mVar 3) (mCons (mVar 0) mNil))) [3]) mNil))))))
    sNo sNx)))
def G_check_layers : List PyData → Option PyData := runM 2 m_check_layers
def m_grown : MS := (sSeq (sOwn 0 (mF dList (mCons (mLook 0) mNil)))
    (sSeq (sOwn 3 (m2 dRepL (mLst (mCons (mC .none) mNil)) (mF dLenX (mCons (mLook 0) mNil))))
    (sSeq (sFor (mRng1 (mCons (mVar 2) mNil)) (pName 4)
    (sFor (mEnumA (mVar 1)) (pTup (pCons (pName 5) (pCons (pTup (pCons (pName 6) (pCons (pName 7) (pCons (pName 8) pNil)))) pNil)))
    (sIf (mB (m2 dGt (m2 dAdd (m2 dIx (mLook 0) (mLook 6)) (mLook 8)) (m2 dIx (mLook 0) (mLook 7))))
    (sSeq (sSetIx 0 (mLook 7) (m2 dAdd (m2 dIx (mLook 0) (mLook 6)) (mLook 8)))
    (sSetIx 3 (mLook 7) (mVar 5))) sNx)))
    (sFrz 0 (sFrz 3 (sRet (mTup (mCons (mVar 0) (mCons (mVar 3) mNil)))))))))
def G_grown : List PyData → Option PyData := runM 6 m_grown
def m_raised_still : MS := (sSeq (sAsg (mLc (mEnumA (mLook 1)) (pTup (pCons (pName 3) (pCons (pTup (pCons (pName 4) (pCons (pName 5) (pCons (pName 6) pNil)))) pNil))) (mB (m2 dGt (m2 dAdd (m2 dIx (mLook 0) (mLook 4)) (mLook 6)) (m2 dIx (mLook 0) (mLook 5)))) (mVar 3) [3, 4, 5, 6]) (pName 2))
    (sRet (mIte (mTru (mLook 2)) (m2 dIx (mLook 2) (mC (.int 0))) (mC .none))))
def G_raised_still : List PyData → Option PyData := runM 5 m_raised_still
def m_ring_from : MS := (sSeq (sAsg (mF (cal 3 G_grown) (mCons (mLc (mItems (mLook 0)) (pName 8) mYes (m2 dIx (mLook 8) (mC (.int 0))) [8]) (mCons (mVar 1) (mCons (m2 dAdd (mF dLenX (mCons (mLook 0) mNil)) (mC (.int 1))) mNil)))) (pTup (pCons (pName 2) (pCons (pName 3) pNil))))
    (sSeq (sAsg (m2 dIx (m2 dIx (mLook 1) (mF (cal 2 G_raised_still) (mCons (mVar 2) (mCons (mVar 1) mNil)))) (mC (.int 0))) (pName 4))
    (sSeq (sFor (mRng1 (mCons (m2 dAdd (mF dLenX (mCons (mLook 0) mNil)) (mC (.int 1))) mNil)) (pName 5)
    (sSeq (sIf (mB (m2 dIsN (m2 dIx (mLook 3) (mLook 4)) (mC .none)))
    sBk sNx)
    (sAsg (m2 dIx (m2 dIx (mLook 1) (m2 dIx (mLook 3) (mLook 4))) (mC (.int 0))) (pName 4))))
    (sSeq (sAsg (mVar 4) (pName 6))
    (sSeq (sOwn 7 (mLst mNil))
    (sSeq (sWhile 100000 (mOr (mNot (mTru (mLook 7))) (mB (m2 dNe (mLook 4) (mLook 6))))
    (sSeq (sApp 7 (m2 dIx (mLook 3) (mLook 4)))
    (sAsg (m2 dIx (m2 dIx (mLook 1) (m2 dIx (mLook 3) (mLook 4))) (mC (.int 0))) (pName 4))))
    (sRet (mF dTuple (mCons (mRev (mLook 7)) mNil)))))))))
def G_ring_from : List PyData → Option PyData := runM 7 m_ring_from
def m_way_to : MS := (sSeq (sOwn 3 (mLst mNil))
    (sSeq (sWhile 100000 (mB (m2 dNotN (m2 dIx (mLook 1) (mLook 2)) (mC .none)))
    (sSeq (sApp 3 (m2 dIx (mLook 1) (mLook 2)))
    (sAsg (m2 dIx (m2 dIx (mLook 0) (m2 dIx (mLook 1) (mLook 2))) (mC (.int 0))) (pName 2))))
    (sRet (mF dTuple (mCons (mRev (mLook 3)) mNil)))))
def G_way_to : List PyData → Option PyData := runM 1 m_way_to
def m_judge_layers : MS := (sSeq (sDrop (mF (cal 2 G_check_layers) (mCons (mVar 0) (mCons (mVar 1) mNil))))
    (sSeq (sAsg (mF (cal 3 G_grown) (mCons (mLc (mItems (mLook 0)) (pName 6) mYes (m2 dIx (mLook 6) (mC (.int 0))) [6]) (mCons (mVar 1) (mCons (mF dLenX (mCons (mLook 0) mNil)) mNil)))) (pTup (pCons (pName 2) (pCons (pName 3) pNil))))
    (sSeq (sAsg (mF (cal 2 G_raised_still) (mCons (mVar 2) (mCons (mVar 1) mNil))) (pName 4))
    (sSeq (sIf (mB (m2 dNotN (mLook 4) (mC .none)))
    (sRet (mTup (mCons (mC (.str "ring")) (mCons (mF (cal 2 G_ring_from) (mCons (mVar 0) (mCons (mVar 1) mNil))) mNil)))) sNx)
    (sSeq (sAsg (mLc (mEnumA (mLook 0)) (pTup (pCons (pName 7) (pCons (pName 6) pNil))) (mB (m2 dGt (m2 dIx (mLook 2) (mLook 7)) (m2 dIx (mLook 6) (mC (.int 1))))) (mVar 7) [7, 6]) (pName 5))
    (sSeq (sIf (mTru (mLook 5))
    (sRet (mTup (mCons (mC (.str "late")) (mCons (mF (cal 3 G_way_to) (mCons (mVar 1) (mCons (mVar 3) (mCons (m2 dIx (mLook 5) (mC (.int 0))) mNil)))) mNil)))) sNx)
    (sRet (mTup (mCons (mC (.str "years")) (mCons (mF dTuple (mCons (mLook 2) mNil)) mNil))))))))))
def G_judge_layers : List PyData → Option PyData := runM 6 m_judge_layers
def m_L_same : MS := (sRet (mAndV (m2 dEq (mLook 0) (mLook 1)) (m2 dEq (mF dRepr (mCons (mLook 0) mNil)) (mF dRepr (mCons (mLook 1) mNil)))))
def G_L_same : List PyData → Option PyData := runM 0 m_L_same
def m_check_right : MS := (sIf (mB (m2 dNe (m2 dIx (mF (cal 2 G_judge_layers) (mCons (mVar 0) (mCons (mVar 1) mNil))) (mC (.int 0))) (mC (.str "years"))))
    sNo sNx)
def G_check_right : List PyData → Option PyData := runM 0 m_check_right
def m_bounds_of : MS := (sSeq (sDrop (mF (cal 2 G_check_right) (mCons (mVar 0) (mCons (mVar 1) mNil))))
    (sSeq (sAsg (m2 dIx (mF (cal 2 G_judge_layers) (mCons (mVar 0) (mCons (mVar 1) mNil))) (mC (.int 1))) (pName 2))
    (sSeq (sAsg (mF dTuple (mCons (mLc (mItems (mLook 1)) (pTup (pCons (pName 5) (pCons (pName 6) (pCons (pName 7) pNil)))) mYes (mTup (mCons (mVar 6) (mCons (mVar 5) (mCons (mVar 7) mNil)))) [5, 6, 7]) mNil)) (pName 3))
    (sSeq (sAsg (m2 dIx (mF (cal 3 G_grown) (mCons (mLc (mItems (mLook 0)) (pName 8) mYes (mNeg (m2 dIx (mLook 8) (mC (.int 1)))) [8]) (mCons (mVar 3) (mCons (mF dLenX (mCons (mLook 0) mNil)) mNil)))) (mC (.int 0))) (pName 4))
    (sRet (mF dTuple (mCons (mLc (mZipA (mLook 2) (mLook 4)) (pTup (pCons (pName 9) (pCons (pName 6) pNil))) mYes (mTup (mCons (mVar 9) (mCons (mNeg (mLook 6)) mNil))) [9, 6]) mNil)))))))
def G_bounds_of : List PyData → Option PyData := runM 8 m_bounds_of
def m_suits : MS := (sSeq (sFor (mItems (mVar 1)) (pTup (pCons (pName 2) (pCons (pName 3) (pCons (pName 4) pNil))))
    (sIf (mAnd (mB (m2 dLt (mLook 2) (mF dLenX (mCons (mLook 0) mNil)))) (mAnd (mB (m2 dLt (mLook 3) (mF dLenX (mCons (mLook 0) mNil)))) (mB (m2 dLt (m2 dSub (m2 dIx (mLook 0) (mLook 3)) (m2 dIx (mLook 0) (mLook 2))) (mLook 4)))))
    (sRet (mC (.bool false))) sNx))
    (sRet (mC (.bool true))))
def G_suits : List PyData → Option PyData := runM 3 m_suits
def m_count_years : MS := (sSeq (sIf (mB (m2 dNe (m2 dIx (mF (cal 2 G_judge_layers) (mCons (mVar 0) (mCons (mVar 1) mNil))) (mC (.int 0))) (mC (.str "years"))))
    (sRet (mC (.int 0))) sNx)
    (sSeq (sAsg (mF (cal 2 G_bounds_of) (mCons (mVar 0) (mCons (mVar 1) mNil))) (pName 2))
    (sSeq (sAsg (mLst (mCons (mTup mNil) mNil)) (pName 3))
    (sSeq (sFor (mEnumA (mVar 2)) (pTup (pCons (pName 4) (pCons (pTup (pCons (pName 5) (pCons (pName 6) pNil))) pNil)))
    (sSeq (sIf (mB (m2 dGt (m2 dMul (mF dLenX (mCons (mLook 3) mNil)) (m2 dAdd (m2 dSub (mLook 6) (mLook 5)) (mC (.int 1)))) (mC (.int 20000))))
    sNo sNx)
    (sSeq (sAsg (mLc2 (mItems (mLook 3)) (pName 7) mYes (mRng2 (mCons (mVar 5) (mCons (m2 dAdd (mLook 6) (mC (.int 1))) mNil))) (pName 8) mYes (m2 dAdd (mLook 7) (mTup (mCons (mVar 8) mNil))) [7, 8] [8]) (pName 3))
    (sAsg (mLc (mItems (mLook 3)) (pName 7) (mTru (mF (cal 2 G_suits) (mCons (mVar 7) (mCons (mVar 1) mNil)))) (mVar 7) [7]) (pName 3)))))
    (sRet (mF dLenX (mCons (mLook 3) mNil)))))))
def G_count_years : List PyData → Option PyData := runM 7 m_count_years
def m_accept_years : MS := (sSeq (sDrop (mF (cal 2 G_check_layers) (mCons (mVar 0) (mCons (mVar 1) mNil))))
    (sSeq (sIf (mOr (mNot (mTru (mIsi "tuple" (mLook 2)))) (mOr (mB (m2 dNe (mF dLenX (mCons (mLook 2) mNil)) (mF dLenX (mCons (mLook 0) mNil)))) (mNot (mTru (mF dAll (mCons (mLc (mItems (mLook 2)) (pName 3) mYes (mF (cal 1 G_is_integer) (mCons (mVar 3) mNil)) [3]) mNil))))))
    sNo sNx)
    (sSeq (sIf (mTru (mLc (mZipA (mLook 2) (mLook 0)) (pTup (pCons (pName 3) (pCons (pName 4) pNil))) (mNot (mB (mCh2 dLe dLe (m2 dIx (mLook 4) (mC (.int 0))) (mLook 3) (m2 dIx (mLook 4) (mC (.int 1)))))) (mC (.int 1)) [3, 4]))
    sNo sNx)
    (sIf (mTru (mLc (mItems (mLook 1)) (pTup (pCons (pName 5) (pCons (pName 6) (pCons (pName 7) pNil)))) (mB (m2 dLt (m2 dSub (m2 dIx (mLook 2) (mLook 6)) (m2 dIx (mLook 2) (mLook 5))) (mLook 7))) (mC (.int 1)) [5, 6, 7]))
    sNo sNx))))
def G_accept_years : List PyData → Option PyData := runM 5 m_accept_years
def m_is_way : MS := (sSeq (sIf (mOr (mNot (mTru (mIsi "tuple" (mLook 0)))) (mNot (mTru (mLook 0))))
    (sRet (mC (.bool false))) sNx)
    (sSeq (sIf (mNot (mTru (mF dAll (mCons (mLc (mItems (mLook 0)) (pName 2) mYes (mAndV (mF (cal 1 G_is_integer) (mCons (mVar 2) mNil)) (mCh2 dLe dLt (mC (.int 0)) (mLook 2) (mF dLenX (mCons (mLook 1) mNil)))) [2]) mNil))))
    (sRet (mC (.bool false))) sNx)
    (sRet (mV (mNot (mTru (mLc (mZipA (mLook 0) (mCut (mLook 0) (mPt (mC (.int 1))) mNoP)) (pTup (pCons (pName 3) (pCons (pName 4) pNil))) (mB (m2 dNe (m2 dIx (m2 dIx (mLook 1) (mLook 3)) (mC (.int 1))) (m2 dIx (m2 dIx (mLook 1) (mLook 4)) (mC (.int 0))))) (mC (.int 1)) [3, 4])))))))
def G_is_way : List PyData → Option PyData := runM 3 m_is_way
def m_accept_ring : MS := (sSeq (sDrop (mF (cal 2 G_check_layers) (mCons (mVar 0) (mCons (mVar 1) mNil))))
    (sSeq (sIf (mNot (mTru (mF (cal 2 G_is_way) (mCons (mVar 2) (mCons (mVar 1) mNil)))))
    sNo sNx)
    (sSeq (sIf (mB (m2 dNe (m2 dIx (m2 dIx (mLook 1) (m2 dIx (mLook 2) (mNeg (mC (.int 1))))) (mC (.int 1))) (m2 dIx (m2 dIx (mLook 1) (m2 dIx (mLook 2) (mC (.int 0)))) (mC (.int 0)))))
    sNo sNx)
    (sIf (mB (m2 dLe (mF dSum (mCons (mLc (mItems (mLook 2)) (pName 3) mYes (m2 dIx (m2 dIx (mLook 1) (mLook 3)) (mC (.int 2))) [3]) mNil)) (mC (.int 0))))
    sNo sNx))))
def G_accept_ring : List PyData → Option PyData := runM 1 m_accept_ring
def m_accept_late : MS := (sSeq (sDrop (mF (cal 2 G_check_layers) (mCons (mVar 0) (mCons (mVar 1) mNil))))
    (sSeq (sIf (mNot (mTru (mF (cal 2 G_is_way) (mCons (mVar 2) (mCons (mVar 1) mNil)))))
    sNo sNx)
    (sIf (mB (m2 dLe (m2 dAdd (m2 dIx (m2 dIx (mLook 0) (m2 dIx (m2 dIx (mLook 1) (m2 dIx (mLook 2) (mC (.int 0)))) (mC (.int 0)))) (mC (.int 0))) (mF dSum (mCons (mLc (mItems (mLook 2)) (pName 3) mYes (m2 dIx (m2 dIx (mLook 1) (mLook 3)) (mC (.int 2))) [3]) mNil))) (m2 dIx (m2 dIx (mLook 0) (m2 dIx (m2 dIx (mLook 1) (m2 dIx (mLook 2) (mNeg (mC (.int 1))))) (mC (.int 1)))) (mC (.int 1)))))
    sNo sNx)))
def G_accept_late : List PyData → Option PyData := runM 1 m_accept_late
def m_L_told_holds : MS := (sSeq (sAsg (mF (cal 2 G_judge_layers) (mCons (mVar 0) (mCons (mVar 1) mNil))) (pName 3))
    (sSeq (sIf (mB (m2 dEq (mLook 2) (mLst mNil)))
    (sSeq (sIf (mB (m2 dNe (mF (cal 2 G_count_years) (mCons (mVar 0) (mCons (mVar 1) mNil))) (mC (.int 0))))
    (sRet (mC (.bool false))) sNx)
    (sRet (mOrV (mAndV (m2 dEq (m2 dIx (mLook 3) (mC (.int 0))) (mC (.str "ring"))) (m2 dIsN (mF (cal 3 G_accept_ring) (mCons (mVar 0) (mCons (mVar 1) (mCons (m2 dIx (mLook 3) (mC (.int 1))) mNil)))) (mC .none))) (mAndV (m2 dEq (m2 dIx (mLook 3) (mC (.int 0))) (mC (.str "late"))) (m2 dIsN (mF (cal 3 G_accept_late) (mCons (mVar 0) (mCons (mVar 1) (mCons (m2 dIx (mLook 3) (mC (.int 1))) mNil)))) (mC .none)))))) sNx)
    (sSeq (sAsg (mF dLenX (mCons (mLook 0) mNil)) (pName 4))
    (sSeq (sAsg (mTup (mCons (mF dTuple (mCons (mLc (mRng1 (mCons (mVar 4) mNil)) (pName 7) mYes (mF (dBest PySem.W.minD) (mCons (mLc (mItems (mLook 2)) (pName 8) mYes (m2 dIx (mLook 8) (mLook 7)) [8]) mNil)) [7]) mNil)) (mCons (mF dTuple (mCons (mLc (mRng1 (mCons (mVar 4) mNil)) (pName 7) mYes (mF (dBest PySem.W.maxD) (mCons (mLc (mItems (mLook 2)) (pName 8) mYes (m2 dIx (mLook 8) (mLook 7)) [8]) mNil)) [7]) mNil)) mNil))) (pTup (pCons (pName 5) (pCons (pName 6) pNil))))
    (sSeq (sIf (mOr (mB (m2 dNotIn (mLook 5) (mLook 2))) (mOr (mB (m2 dNotIn (mLook 6) (mLook 2))) (mOr (mB (m2 dNe (mLook 3) (mTup (mCons (mC (.str "years")) (mCons (mVar 5) mNil))))) (mB (m2 dNotN (mF (cal 3 G_accept_years) (mCons (mVar 0) (mCons (mVar 1) (mCons (mVar 6) mNil)))) (mC .none))))))
    (sRet (mC (.bool false))) sNx)
    (sRet (mAndV (mF (cal 2 G_L_same) (mCons (mF (cal 2 G_bounds_of) (mCons (mVar 0) (mCons (mVar 1) mNil))) (mCons (mF dTuple (mCons (mLc (mRng1 (mCons (mVar 4) mNil)) (pName 7) mYes (mTup (mCons (m2 dIx (mLook 5) (mLook 7)) (mCons (m2 dIx (mLook 6) (mLook 7)) mNil))) [7]) mNil)) mNil))) (m2 dEq (mF (cal 2 G_count_years) (mCons (mVar 0) (mCons (mVar 1) mNil))) (mF dLenX (mCons (mLook 2) mNil))))))))))
def G_L_told_holds : List PyData → Option PyData := runM 6 m_L_told_holds
def m_needless_gaps : MS := (sSeq (sAsg (mF (cal 2 G_bounds_of) (mCons (mVar 0) (mCons (mVar 1) mNil))) (pName 2))
    (sRet (mF dTuple (mCons (mLc (mRng1 (mCons (mF dLenX (mCons (mLook 1) mNil)) mNil)) (pName 3) (mB (m2 dEq (mF (cal 2 G_bounds_of) (mCons (mVar 0) (mCons (m2 dAdd (mCut (mLook 1) mNoP (mPt (mVar 3))) (mCut (mLook 1) (mPt (m2 dAdd (mLook 3) (mC (.int 1)))) mNoP)) mNil))) (mLook 2))) (mVar 3) [3]) mNil))))
def G_needless_gaps : List PyData → Option PyData := runM 2 m_needless_gaps
def m_L_pick : MS := (sRet (m2 dIx (mLook 1) (mFS 0 1 G_L_draw (mCons (mF dLenX (mCons (mLook 1) mNil)) mNil))))
def G_L_pick : List PyData → Drw → Option (PyData × Drw) := runS 0 m_L_pick
def m_least_gap : MS := (sSeq (sDrop (mF (cal 2 G_check_right) (mCons (mVar 0) (mCons (mVar 1) mNil))))
    (sSeq (sFor (mItems (mTup (mCons (mTup (mCons (mC (.str "one")) (mCons (mVar 2) mNil))) (mCons (mTup (mCons (mC (.str "other")) (mCons (mVar 3) mNil))) mNil)))) (pTup (pCons (pName 4) (pCons (pName 5) pNil)))
    (sIf (mOr (mNot (mTru (mF (cal 1 G_is_integer) (mCons (mVar 5) mNil)))) (mNot (mB (mCh2 dLe dLt (mC (.int 0)) (mLook 5) (mF dLenX (mCons (mLook 0) mNil))))))
    sNo sNx))
    (sSeq (sAsg (m2 dIx (mF (cal 2 G_bounds_of) (mCons (mVar 0) (mCons (mVar 1) mNil))) (mLook 2)) (pTup (pCons (pName 6) (pCons (pName 7) pNil))))
    (sSeq (sOwn 8 (mLst mNil))
    (sSeq (sFor (mItems (mTup (mCons (mVar 6) (mCons (mVar 7) mNil)))) (pName 9)
    (sSeq (sAsg (m2 dAdd (m2 dAdd (mCut (mLook 0) mNoP (mPt (mVar 2))) (mTup (mCons (mTup (mCons (mVar 9) (mCons (mVar 9) mNil))) mNil))) (mCut (mLook 0) (mPt (m2 dAdd (mLook 2) (mC (.int 1)))) mNoP)) (pName 10))
    (sApp 8 (m2 dSub (m2 dIx (m2 dIx (mF (cal 2 G_judge_layers) (mCons (mVar 10) (mCons (mVar 1) mNil))) (mC (.int 1))) (mLook 3)) (mLook 9)))))
    (sRet (mF (dBest PySem.W.minD) (mCons (mLook 8) mNil))))))))
def G_least_gap : List PyData → Option PyData := runM 7 m_least_gap
def m_L_gaps_hold : MS := (sSeq (sAsg (mF dLenX (mCons (mLook 1) mNil)) (pName 4))
    (sSeq (sAsg (mLc (mRng1 (mCons (mVar 4) mNil)) (pName 12) mYes (mLc (mRng1 (mCons (mVar 4) mNil)) (pName 13) mYes (mF (cal 4 G_least_gap) (mCons (mVar 1) (mCons (mVar 2) (mCons (mVar 12) (mCons (mVar 13) mNil))))) [13]) [12]) (pName 5))
    (sSeq (sIf (mB (m2 dNe (mLook 5) (mLc (mRng1 (mCons (mVar 4) mNil)) (pName 12) mYes (mLc (mRng1 (mCons (mVar 4) mNil)) (pName 13) mYes (mF (dBest PySem.W.minD) (mCons (mLc (mItems (mLook 3)) (pName 15) mYes (m2 dSub (m2 dIx (mLook 15) (mLook 13)) (m2 dIx (mLook 15) (mLook 12))) [15]) mNil)) [13]) [12])))
    (sRet (mC (.bool false))) sNx)
    (sSeq (sAsg (mLc (mRng1 (mCons (mC (.int 3)) mNil)) (pName 11) mYes (mFS 0 1 G_L_draw (mCons (mVar 4) mNil)) [11]) (pTupL (pCons (pName 6) (pCons (pName 7) (pCons (pName 8) pNil)))))
    (sSeq (sIf (mOr (mB (m2 dLt (m2 dIx (m2 dIx (mLook 5) (mLook 6)) (mLook 8)) (m2 dAdd (m2 dIx (m2 dIx (mLook 5) (mLook 6)) (mLook 7)) (m2 dIx (m2 dIx (mLook 5) (mLook 7)) (mLook 8))))) (mB (m2 dNe (m2 dIx (m2 dIx (mLook 5) (mLook 6)) (mLook 6)) (mC (.int 0)))))
    (sRet (mC (.bool false))) sNx)
    (sSeq (sAsg (mF (cal 2 G_bounds_of) (mCons (mVar 1) (mCons (mVar 2) mNil))) (pName 9))
    (sSeq (sIf (mB (m2 dNe (mLook 6) (mLook 7)))
    (sSeq (sIf (mOr (mB (m2 dNe (mF (cal 2 G_bounds_of) (mCons (mVar 1) (mCons (m2 dAdd (mLook 2) (mTup (mCons (mTup (mCons (mVar 6) (mCons (mVar 7) (mCons (m2 dIx (m2 dIx (mLook 5) (mLook 6)) (mLook 7)) mNil)))) mNil))) mNil))) (mLook 9))) (mB (m2 dNotIn (mF dLenX (mCons (mLook 2) mNil)) (mF (cal 2 G_needless_gaps) (mCons (mVar 1) (mCons (m2 dAdd (mLook 2) (mTup (mCons (mTup (mCons (mVar 6) (mCons (mVar 7) (mCons (m2 dIx (m2 dIx (mLook 5) (mLook 6)) (mLook 7)) mNil)))) mNil))) mNil))))))
    (sRet (mC (.bool false))) sNx)
    (sSeq (sAsg (m2 dAdd (mLook 2) (mTup (mCons (mTup (mCons (mVar 6) (mCons (mVar 7) (mCons (m2 dAdd (m2 dIx (m2 dIx (mLook 5) (mLook 6)) (mLook 7)) (mC (.int 1))) mNil)))) mNil))) (pName 10))
    (sIf (mNot (mTru (mF (cal 3 G_L_told_holds) (mCons (mVar 1) (mCons (mVar 10) (mCons (mLc (mItems (mLook 3)) (pName 15) (mB (m2 dGt (m2 dSub (m2 dIx (mLook 15) (mLook 7)) (m2 dIx (mLook 15) (mLook 6))) (m2 dIx (m2 dIx (mLook 5) (mLook 6)) (mLook 7)))) (mVar 15) [15]) mNil))))))
    (sRet (mC (.bool false))) sNx))) sNx)
    (sSeq (sFor (mItems (mF (cal 2 G_needless_gaps) (mCons (mVar 1) (mCons (mVar 2) mNil)))) (pName 11)
    (sIf (mB (m2 dNe (mF (cal 2 G_bounds_of) (mCons (mVar 1) (mCons (m2 dAdd (mCut (mLook 2) mNoP (mPt (mVar 11))) (mCut (mLook 2) (mPt (m2 dAdd (mLook 11) (mC (.int 1)))) mNoP)) mNil))) (mLook 9)))
    (sRet (mC (.bool false))) sNx))
    (sSeq (sAsg (mTup (mCons (mFS 0 1 G_L_pick (mCons (mVar 3) mNil)) (mCons (mFS 0 1 G_L_pick (mCons (mVar 3) mNil)) mNil))) (pTup (pCons (pName 12) (pCons (pName 13) pNil))))
    (sSeq (sAsg (mLst (mCons (mF dTuple (mCons (mLc (mRng1 (mCons (mVar 4) mNil)) (pName 11) mYes (mF (dBest PySem.W.minD) (mCons (mLst (mCons (m2 dIx (mLook 12) (mLook 11)) (mCons (m2 dIx (mLook 13) (mLook 11)) mNil))) mNil)) [11]) mNil)) (mCons (mF dTuple (mCons (mLc (mRng1 (mCons (mVar 4) mNil)) (pName 11) mYes (mF (dBest PySem.W.maxD) (mCons (mLst (mCons (m2 dIx (mLook 12) (mLook 11)) (mCons (m2 dIx (mLook 13) (mLook 11)) mNil))) mNil)) [11]) mNil)) mNil))) (pName 14))
    (sRet (m2 dEq (mLc (mItems (mLook 14)) (pName 15) (mOr (mB (m2 dNotIn (mLook 15) (mLook 3))) (mB (m2 dNotN (mF (cal 3 G_accept_years) (mCons (mVar 1) (mCons (mVar 2) (mCons (mVar 15) mNil)))) (mC .none)))) (mVar 15) [15]) (mLst mNil)))))))))))))
def G_L_gaps_hold : List PyData → Drw → Option (PyData × Drw) := runS 12 m_L_gaps_hold
def m_law : MS := (sSeq (sFor (mRng1 (mCons (mC (.int 2)) mNil)) (pName 2)
    (sSeq (sAsg (m2 dAdd (mC (.int 1)) (mFS 1 1 G_L_draw (mCons (mC (.int 4)) mNil))) (pName 3))
    (sSeq (sAsg (mFS 1 1 G_L_finds (mCons (mVar 3) mNil)) (pTup (pCons (pName 4) (pCons (pName 5) pNil))))
    (sSeq (sAsg (mF (cal 2 G_L_all_years) (mCons (mVar 4) (mCons (mVar 5) mNil))) (pName 6))
    (sSeq (sIf (mOr (mNot (mTru (mF (cal 3 G_L_told_holds) (mCons (mVar 4) (mCons (mVar 5) (mCons (mVar 6) mNil)))))) (mAnd (mTru (mLook 6)) (mNot (mTru (mFS 1 3 G_L_gaps_hold (mCons (mVar 4) (mCons (mVar 5) (mCons (mVar 6) mNil))))))))
    (sRet (mC (.bool false))) sNx)
    (sSeq (sAsg (m2 dSub (mFS 1 1 G_L_draw (mCons (mC (.int 900)) mNil)) (mC (.int 450))) (pName 7))
    (sSeq (sAsg (mF dTuple (mCons (mLc (mItems (mLook 4)) (pTup (pCons (pName 18) (pCons (pName 19) pNil))) mYes (mTup (mCons (m2 dAdd (mLook 18) (mLook 7)) (mCons (m2 dAdd (mLook 19) (mLook 7)) mNil))) [18, 19]) mNil)) (pName 8))
    (sSeq (sIf (mNot (mTru (mF (cal 3 G_L_told_holds) (mCons (mVar 8) (mCons (mVar 5) (mCons (mLc (mItems (mLook 6)) (pName 20) mYes (mF dTuple (mCons (mLc (mItems (mLook 20)) (pName 17) mYes (m2 dAdd (mLook 17) (mLook 7)) [17]) mNil)) [20]) mNil))))))
    (sRet (mC (.bool false))) sNx)
    (sSeq (sPar 9 10 (mCons (mF dTuple (mCons (mLc (mItems (mLook 4)) (pTup (pCons (pName 18) (pCons (pName 19) pNil))) mYes (mTup (mCons (m2 dSub (mC (.int 0)) (mLook 19)) (mCons (m2 dSub (mC (.int 0)) (mLook 18)) mNil))) [18, 19]) mNil)) (mCons (mF dTuple (mCons (mLc (mItems (mLook 5)) (pTup (pCons (pName 18) (pCons (pName 19) (pCons (pName 21) pNil)))) mYes (mTup (mCons (mVar 19) (mCons (mVar 18) (mCons (mVar 21) mNil)))) [18, 19, 21]) mNil)) mNil)))
    (sSeq (sIf (mNot (mTru (mF (cal 3 G_L_told_holds) (mCons (mVar 9) (mCons (mVar 10) (mCons (mLc (mItems (mLook 6)) (pName 20) mYes (mF dTuple (mCons (mLc (mItems (mLook 20)) (pName 17) mYes (m2 dSub (mC (.int 0)) (mLook 17)) [17]) mNil)) [20]) mNil))))))
    (sRet (mC (.bool false))) sNx)
    (sSeq (sAsg (mFS 1 1 G_L_order (mCons (m1 dLstRg (mLook 3)) mNil)) (pName 11))
    (sSeq (sAsg (mLc (mRng1 (mCons (mVar 3) mNil)) (pName 17) mYes (m2 dLidx (mLook 11) (mLook 17)) [17]) (pName 12))
    (sSeq (sIf (mNot (mTru (mF (cal 3 G_L_told_holds) (mCons (mF dTuple (mCons (mLc (mItems (mLook 11)) (pName 17) mYes (m2 dIx (mLook 4) (mLook 17)) [17]) mNil)) (mCons (mF dTuple (mCons (mLc (mItems (mLook 5)) (pTup (pCons (pName 18) (pCons (pName 19) (pCons (pName 21) pNil)))) mYes (mTup (mCons (m2 dIx (mLook 12) (mLook 18)) (mCons (m2 dIx (mLook 12) (mLook 19)) (mCons (mVar 21) mNil)))) [18, 19, 21]) mNil)) (mCons (mLc (mItems (mLook 6)) (pName 20) mYes (mF dTuple (mCons (mLc (mItems (mLook 11)) (pName 17) mYes (m2 dIx (mLook 20) (mLook 17)) [17]) mNil)) [20]) mNil))))))
    (sRet (mC (.bool false))) sNx)
    (sSeq (sAsg (mFS 1 1 G_L_finds (mCons (m2 dAdd (mC (.int 1)) (mFS 1 1 G_L_draw (mCons (mC (.int 2)) mNil))) mNil)) (pName 13))
    (sSeq (sAsg (mF (cal 2 G_L_all_years) (mCons (m2 dIx (mLook 13) (mC (.int 0))) (mCons (m2 dIx (mLook 13) (mC (.int 1))) mNil))) (pName 14))
    (sSeq (sIf (mB (m2 dGt (m2 dMul (mF dLenX (mCons (mLook 6) mNil)) (mF dLenX (mCons (mLook 14) mNil))) (mC (.int 400))))
    (sRet (mC (.bool true))) sNx)
    (sSeq (sParF true false 15 16 (mLst mNil) (m2 dAdd (mLook 5) (mF dTuple (mCons (mLc (mItems (m2 dIx (mLook 13) (mC (.int 1)))) (pTup (pCons (pName 18) (pCons (pName 19) (pCons (pName 21) pNil)))) mYes (mTup (mCons (m2 dAdd (mLook 18) (mLook 3)) (mCons (m2 dAdd (mLook 19) (mLook 3)) (mCons (mVar 21) mNil)))) [18, 19, 21]) mNil))))
    (sSeq (sFor (mItems (mVar 6)) (pName 17)
    (sExt 15 (mLc (mItems (mLook 14)) (pName 18) mYes (m2 dAdd (mLook 17) (mLook 18)) [18])))
    (sFrz 15 (sIf (mNot (mTru (mF (cal 3 G_L_told_holds) (mCons (m2 dAdd (mLook 4) (m2 dIx (mLook 13) (mC (.int 0)))) (mCons (mVar 16) (mCons (mVar 15) mNil))))))
    (sRet (mC (.bool false))) sNx))))))))))))))))))))
    (sRet (mC (.bool true))))
end K64

set_option Elab.async false
set_option linter.all false
set_option maxRecDepth 100000
set_option maxHeartbeats 4000000
/-! K64 math 1: raising years by gaps, round by round: a plain account. -/
namespace K64
abbrev Gap := Nat × Nat × Int
def A (y : List Int) (i : Nat) : Int := y.getD i 0
abbrev Tl := List (Option Nat)
def T (t : Tl) (i : Nat) : Option Nat := t.getD i none
theorem A_set {y : List Int} {b : Nat} {v : Int} (h : b < y.length) (i : Nat) : A (y.set b v) i = if i = b then v else A y i := by
  unfold A
  rw [List.getD_eq_getElem?_getD, List.getElem?_set, List.getD_eq_getElem?_getD]
  by_cases e : b = i
  · subst e; simp [h]
  · rw [if_neg e, if_neg fun z => e z.symm]
theorem T_set {y : Tl} {b : Nat} {v : Option Nat} (h : b < y.length) (i : Nat) : T (y.set b v) i = if i = b then v else T y i := by
  unfold T
  rw [List.getD_eq_getElem?_getD, List.getElem?_set, List.getD_eq_getElem?_getD]
  by_cases e : b = i
  · subst e; simp [h]
  · rw [if_neg e, if_neg fun z => e z.symm]
abbrev St := List Int × Tl
def upd1 (k : Nat) (g : Gap) (s : St) : St := if A s.1 g.2.1 < A s.1 g.1 + g.2.2 then (s.1.set g.2.1 (A s.1 g.1 + g.2.2), s.2.set g.2.1 (some k)) else s
def roundK : Nat → List Gap → St → St
  | _, [], s => s
  | k, g :: gs, s => roundK (k + 1) gs (upd1 k g s)
def rounds (gs : List Gap) : Nat → St → St
  | 0, s => s
  | r + 1, s => rounds gs r (roundK 0 gs s)
theorem rounds_last (gs : List Gap) : ∀ (r : Nat) (s : St), rounds gs (r + 1) s = roundK 0 gs (rounds gs r s)
  | 0, s => rfl
  | r + 1, s => by rw [rounds, rounds_last gs r, rounds]
def one (gs : List Gap) (k : Nat) : Nat := (gs.getD k (0, 0, 0)).1
def oth (gs : List Gap) (k : Nat) : Nat := (gs.getD k (0, 0, 0)).2.1
def wt (gs : List Gap) (k : Nat) : Int := (gs.getD k (0, 0, 0)).2.2
def W (gs : List Gap) (ks : List Nat) : Int := (ks.map (wt gs)).sum
theorem W_cons {gs : List Gap} {k : Nat} {ks : List Nat} : W gs (k :: ks) = wt gs k + W gs ks := by simp [W]
theorem W_app {gs : List Gap} {ks ls : List Nat} : W gs (ks ++ ls) = W gs ks + W gs ls := by simp [W, List.sum_append_int]
/-- behind the years told: the gaps that told them, from v back to u -/
def Chain (gs : List Gap) (t : Tl) : Nat → List Nat → Nat → Prop
  | v, [], u => v = u
  | v, k :: ks, u => T t v = some k ∧ Chain gs t (one gs k) ks u
/-- no step from b -/
def ChainN (gs : List Gap) (t : Tl) (b : Nat) : Nat → List Nat → Nat → Prop
  | v, [], u => v = u
  | v, k :: ks, u => v ≠ b ∧ T t v = some k ∧ ChainN gs t b (one gs k) ks u
theorem chain_app {gs : List Gap} {t : Tl} : ∀ {ks ls : List Nat} {v u x : Nat}, Chain gs t v ks u → Chain gs t u ls x → Chain gs t v (ks ++ ls) x
  | [], _, _, _, _, h, g => by cases h; exact g
  | _ :: _, _, _, _, _, h, g => ⟨h.1, chain_app h.2 g⟩
theorem chain_split {gs : List Gap} {t : Tl} : ∀ {ks ls : List Nat} {v x : Nat}, Chain gs t v (ks ++ ls) x → ∃ u, Chain gs t v ks u ∧ Chain gs t u ls x
  | [], _, v, _, h => ⟨v, rfl, h⟩
  | _ :: _, _, _, _, h => by
    obtain ⟨u, h1, h2⟩ := chain_split h.2
    exact ⟨u, ⟨h.1, h1⟩, h2⟩
theorem chainN_of {gs : List Gap} {t t' : Tl} {b : Nat} (e : ∀ v, v ≠ b → T t' v = T t v) : ∀ {ks : List Nat} {v u : Nat}, ChainN gs t' b v ks u → ChainN gs t b v ks u
  | [], _, _, h => h
  | _ :: _, _, _, h => ⟨h.1, (e _ h.1) ▸ h.2.1, chainN_of e h.2.2⟩
theorem chainN_chain {gs : List Gap} {t : Tl} {b : Nat} : ∀ {ks : List Nat} {v u : Nat}, ChainN gs t b v ks u → Chain gs t v ks u
  | [], _, _, h => h
  | _ :: _, _, _, h => ⟨h.2.1, chainN_chain h.2.2⟩
theorem chain_at {gs : List Gap} {t : Tl} (b : Nat) : ∀ {ks : List Nat} {v u : Nat}, Chain gs t v ks u → ChainN gs t b v ks u ∨ ∃ k1 k2, ks = k1 ++ k2 ∧ ChainN gs t b v k1 b ∧ Chain gs t b k2 u ∧ k2 ≠ []
  | [], _, _, h => .inl h
  | k :: ks, v, u, h => by
    by_cases e : v = b
    · subst e
      exact .inr ⟨[], k :: ks, rfl, rfl, h, List.cons_ne_nil _ _⟩
    · rcases chain_at b h.2 with q | ⟨k1, k2, rfl, q1, q2, q3⟩
      · exact .inl ⟨e, h.1, q⟩
      · exact .inr ⟨k :: k1, k2, rfl, ⟨e, h.1, q1⟩, q2, q3⟩
theorem chain_det {gs : List Gap} {t : Tl} : ∀ {ks ls : List Nat} {v u x : Nat}, Chain gs t v ks u → Chain gs t v ls x → ks.length ≤ ls.length → ∃ rest, ls = ks ++ rest ∧ Chain gs t u rest x
  | [], ls, _, _, _, h, g, _ => by cases h; exact ⟨ls, rfl, g⟩
  | k :: ks, [], _, _, _, h, g, hl => by simp at hl
  | k :: ks, l :: ls, _, _, _, h, g, hl => by
    have e : k = l := by
      have := h.1.symm.trans g.1
      exact Option.some.inj this
    subst e
    obtain ⟨rest, h1, h2⟩ := chain_det h.2 g.2 (by simpa using hl)
    exact ⟨rest, by rw [h1]; rfl, h2⟩
/-- what stands all along -/
structure BI (gs : List Gap) (n : Nat) (lo : List Int) (s : St) : Prop where
  ly : s.1.length = n
  lt : s.2.length = n
  ge : ∀ i, A lo i ≤ A s.1 i
  root : ∀ i, T s.2 i = none → A s.1 i = A lo i
  edge : ∀ i k, T s.2 i = some k → k < gs.length ∧ oth gs k = i ∧ i < n ∧ A s.1 i ≤ A s.1 (one gs k) + wt gs k
  cyc : ∀ v ks, ks ≠ [] → Chain gs s.2 v ks v → 0 < W gs ks
def GapOk (n : Nat) (g : Gap) : Prop := g.1 < n ∧ g.2.1 < n ∧ g.1 ≠ g.2.1
section
variable {gs : List Gap} {n : Nat} {lo : List Int} {s : St}
theorem BI.chain_le (I : BI gs n lo s) : ∀ {ks : List Nat} {v u : Nat}, Chain gs s.2 v ks u → A s.1 v ≤ A s.1 u + W gs ks
  | [], _, _, h => by cases h; simp [W]
  | k :: ks, v, u, h => by
    have h1 := (I.edge v k h.1).2.2.2
    have h2 := I.chain_le h.2
    rw [W_cons]
    omega
theorem BI.upd (I : BI gs n lo s) {k : Nat} {g : Gap} (hg : gs[k]? = some g) (ok : GapOk n g) : BI gs n lo (upd1 k g s) := by
  obtain ⟨a, b, m⟩ := g
  obtain ⟨ha, hb, hab⟩ := ok
  simp only at ha hb hab
  obtain ⟨hk, hk'⟩ := List.getElem?_eq_some_iff.mp hg
  have eo : one gs k = a := by simp [one, List.getD_eq_getElem?_getD, hg]
  have et : oth gs k = b := by simp [oth, List.getD_eq_getElem?_getD, hg]
  have ew : wt gs k = m := by simp [wt, List.getD_eq_getElem?_getD, hg]
  unfold upd1
  simp only
  split
  rotate_left
  · exact I
  rename_i hlt
  have hly : b < s.1.length := by rw [I.ly]; exact hb
  have hlt2 : b < s.2.length := by rw [I.lt]; exact hb
  have up : ∀ i, A s.1 i ≤ A (s.1.set b (A s.1 a + m)) i := fun i => by
    rw [A_set hly]; split
    · rename_i e; subst e; omega
    · omega
  have same : ∀ v, v ≠ b → T (s.2.set b (some k)) v = T s.2 v := fun v hv => by rw [T_set hlt2, if_neg hv]
  refine ⟨by simp [I.ly], by simp [I.lt], fun i => Int.le_trans (I.ge i) (up i), fun i hi => ?_, fun i k' hi => ?_, ?_⟩
  · simp only at hi ⊢
    rw [T_set hlt2] at hi
    split at hi
    · cases hi
    · rename_i e
      rw [A_set hly, if_neg e]; exact I.root i hi
  · simp only at hi ⊢
    rw [T_set hlt2] at hi
    split at hi
    · rename_i e
      cases hi
      refine ⟨hk, by rw [et, e], by rw [e]; exact hb, ?_⟩
      rw [eo, ew, A_set hly, if_pos e, A_set hly, if_neg hab]
      exact Int.le_refl _
    · rename_i e
      obtain ⟨q1, q2, q3, q4⟩ := I.edge i k' hi
      refine ⟨q1, q2, q3, ?_⟩
      have := up (one gs k')
      rw [A_set hly, if_neg e]
      omega
  · -- closed chains at b
    have atb : ∀ (l : Nat) (ks : List Nat), ks.length = l → ks ≠ [] → Chain gs (s.2.set b (some k)) b ks b → 0 < W gs ks := by
      intro l
      induction l using Nat.strongRecOn with
      | _ l ih =>
        intro ks hl hne hc
        cases ks with
        | nil => exact absurd rfl hne
        | cons k' ks =>
          obtain ⟨h1, h2⟩ := hc
          rw [T_set hlt2, if_pos rfl] at h1
          cases h1
          rw [eo] at h2
          rw [W_cons, ew]
          have pos : ∀ {r : List Nat}, ChainN gs (s.2.set b (some k)) b a r b → 0 < m + W gs r := fun {r} h => by
            have := I.chain_le (chainN_chain (chainN_of same h))
            omega
          rcases chain_at b h2 with q | ⟨k1, k2, rfl, q1, q2, q3⟩
          · exact pos q
          · have p1 := pos q1
            have p2 := ih k2.length (by rw [← hl]; simp; omega) k2 rfl q3 q2
            rw [W_app]
            omega
    intro v ks hne hc
    rcases chain_at b hc with q | ⟨k1, k2, rfl, q1, q2, q3⟩
    · exact I.cyc v ks hne (chainN_chain (chainN_of same q))
    · have := atb _ (k2 ++ k1) rfl (by simp [q3]) (chain_app q2 (chainN_chain q1))
      rw [W_app] at this ⊢
      omega
theorem BI.roundK (I : BI gs n lo s) (ok : ∀ g ∈ gs, GapOk n g) : ∀ (rest : List Gap) (k : Nat) {s : St}, gs.drop k = rest → BI gs n lo s → BI gs n lo (roundK k rest s)
  | [], k, s, _, J => J
  | g :: rest, k, s, h, J => by
    have hg : gs[k]? = some g := by
      have := List.getElem?_drop (xs := gs) (i := k) (j := 0)
      rw [h] at this
      simpa using this.symm
    have hr : gs.drop (k + 1) = rest := by
      rw [← List.drop_drop, h]; rfl
    exact BI.roundK I ok rest (k + 1) hr (J.upd hg (ok g (List.mem_of_getElem? hg)))
theorem BI.rounds (ok : ∀ g ∈ gs, GapOk n g) : ∀ (r : Nat) {s : St}, BI gs n lo s → BI gs n lo (rounds gs r s)
  | 0, s, I => I
  | r + 1, s, I => BI.rounds ok r (I.roundK ok gs 0 rfl I)
theorem BI.start (h : lo.length = n) : BI gs n lo (lo, List.replicate n none) := by
  have t0 : ∀ i, T (List.replicate n none) i = none := fun i => by
    unfold T
    rw [List.getD_eq_getElem?_getD, List.getElem?_replicate]
    split <;> rfl
  refine ⟨h, by simp, fun i => Int.le_refl _, fun i _ => rfl, fun i k hi => ?_, fun v ks hne hc => ?_⟩
  · rw [t0] at hi; cases hi
  · cases ks with
    | nil => exact absurd rfl hne
    | cons k ks => cases (t0 v).symm.trans hc.1
/-! ### how far the years are raised -/
theorem upd_up (k : Nat) (g : Gap) (s : St) (hb : g.2.1 < s.1.length) (i : Nat) : A s.1 i ≤ A (upd1 k g s).1 i := by
  unfold upd1
  split
  · simp only; rw [A_set hb]; split
    · rename_i e; subst e; omega
    · omega
  · exact Int.le_refl _
theorem upd_len (k : Nat) (g : Gap) (s : St) : (upd1 k g s).1.length = s.1.length := by unfold upd1; split <;> simp
theorem roundK_len : ∀ (gs : List Gap) (k : Nat) (s : St), (roundK k gs s).1.length = s.1.length
  | [], _, _ => rfl
  | g :: gs, k, s => by rw [roundK, roundK_len gs, upd_len]
theorem roundK_up : ∀ (gs : List Gap) (k : Nat) (s : St), (∀ g ∈ gs, g.2.1 < s.1.length) → ∀ i, A s.1 i ≤ A (roundK k gs s).1 i
  | [], _, _, _, _ => Int.le_refl _
  | g :: gs, k, s, h, i => by
    have h1 := upd_up k g s (h g List.mem_cons_self) i
    have h2 := roundK_up gs (k + 1) (upd1 k g s) (fun x hx => by rw [upd_len]; exact h x (List.mem_cons_of_mem _ hx)) i
    exact Int.le_trans h1 h2
theorem roundK_edge : ∀ (gs : List Gap) (k : Nat) (s : St), (∀ g ∈ gs, g.2.1 < s.1.length) → ∀ g ∈ gs, A s.1 g.1 + g.2.2 ≤ A (roundK k gs s).1 g.2.1
  | [], _, _, _, g, hg => by cases hg
  | g0 :: gs, k, s, h, g, hg => by
    have hl : ∀ x ∈ gs, x.2.1 < (upd1 k g0 s).1.length := fun x hx => by rw [upd_len]; exact h x (List.mem_cons_of_mem _ hx)
    rcases List.mem_cons.mp hg with e | hg
    · subst e
      have h1 : A s.1 g.1 + g.2.2 ≤ A (upd1 k g s).1 g.2.1 := by
        unfold upd1
        split
        · simp only; rw [A_set (h g List.mem_cons_self), if_pos rfl]; exact Int.le_refl _
        · omega
      exact Int.le_trans h1 (roundK_up gs (k + 1) _ hl _)
    · have h1 := roundK_edge gs (k + 1) (upd1 k g0 s) hl g hg
      have h2 := upd_up k g0 s (h g0 List.mem_cons_self) g.1
      rw [roundK]
      omega
theorem rounds_len (gs : List Gap) : ∀ (r : Nat) (s : St), (rounds gs r s).1.length = s.1.length
  | 0, _ => rfl
  | r + 1, s => by rw [rounds, rounds_len gs r, roundK_len]
/-- a way by gaps, from v back to u -/
def Way (gs : List Gap) : Nat → List Nat → Nat → Prop
  | v, [], u => v = u
  | v, k :: ks, u => k < gs.length ∧ oth gs k = v ∧ Way gs (one gs k) ks u
theorem BI.way (I : BI gs n lo s) : ∀ {ks : List Nat} {v u : Nat}, Chain gs s.2 v ks u → Way gs v ks u
  | [], _, _, h => h
  | k :: ks, v, u, h => ⟨(I.edge v k h.1).1, (I.edge v k h.1).2.1, I.way h.2⟩
theorem mem_gap {k : Nat} (h : k < gs.length) : (one gs k, oth gs k, wt gs k) ∈ gs := by
  have e : gs[k]? = some gs[k] := List.getElem?_eq_getElem h
  have : (one gs k, oth gs k, wt gs k) = gs[k] := by simp [one, oth, wt, List.getD_eq_getElem?_getD, e]
  rw [this]
  exact List.getElem_mem h
theorem rounds_way (s : St) (ok : ∀ g ∈ gs, g.2.1 < s.1.length) : ∀ (r : Nat) {ks : List Nat} {v u : Nat}, Way gs v ks u → ks.length ≤ r → A s.1 u + W gs ks ≤ A (rounds gs r s).1 v
  | 0, ks, v, u, h, hl => by
    cases ks with
    | nil => cases h; simp [W, rounds]
    | cons k ks => simp at hl
  | r + 1, ks, v, u, h, hl => by
    rw [rounds_last]
    have ok' : ∀ g ∈ gs, g.2.1 < (rounds gs r s).1.length := fun g hg => by rw [rounds_len]; exact ok g hg
    cases ks with
    | nil =>
      have h1 := rounds_way s ok r (ks := []) h (Nat.zero_le _)
      exact Int.le_trans h1 (roundK_up gs 0 _ ok' v)
    | cons k ks =>
      obtain ⟨h1, h2, h3⟩ := h
      have q := rounds_way s ok r h3 (by simpa using hl)
      have e := roundK_edge gs 0 (rounds gs r s) ok' _ (mem_gap h1)
      simp only at e
      rw [h2] at e
      rw [W_cons]
      omega
/-! ### no room for more than n -/
theorem nodup_lt : ∀ {l : List Nat} {n : Nat}, l.Nodup → (∀ x ∈ l, x < n) → l.length ≤ n := fun {l n} h1 h2 => by
  have := List.Nodup.length_le_of_subset h1 (l₂ := List.range n) fun x hx => List.mem_range.mpr (h2 x hx)
  simpa using this
/-- the places of a chain, the last not -/
def spots (gs : List Gap) : Nat → List Nat → List Nat
  | _, [] => []
  | v, k :: ks => v :: spots gs (one gs k) ks
theorem spots_len : ∀ (ks : List Nat) (v : Nat), (spots gs v ks).length = ks.length
  | [], _ => rfl
  | k :: ks, v => by simp [spots, spots_len ks]
theorem spots_mem {t : Tl} : ∀ {ks : List Nat} {v u x : Nat}, Chain gs t v ks u → x ∈ spots gs v ks → ∃ k1 k2, ks = k1 ++ k2 ∧ Chain gs t v k1 x ∧ Chain gs t x k2 u ∧ k2 ≠ []
  | [], _, _, _, _, hx => by cases hx
  | k :: ks, v, u, x, h, hx => by
    rcases List.mem_cons.mp hx with e | hx
    · subst e; exact ⟨[], k :: ks, rfl, rfl, h, List.cons_ne_nil _ _⟩
    · obtain ⟨k1, k2, rfl, q1, q2, q3⟩ := spots_mem h.2 hx
      exact ⟨k :: k1, k2, rfl, ⟨h.1, q1⟩, q2, q3⟩
theorem spots_or {t : Tl} : ∀ {ks : List Nat} {v u : Nat}, Chain gs t v ks u → (spots gs v ks).Nodup ∨ ∃ x k1 k2 k3, ks = k1 ++ (k2 ++ k3) ∧ Chain gs t v k1 x ∧ Chain gs t x k2 x ∧ Chain gs t x k3 u ∧ k2 ≠ []
  | [], _, _, _ => .inl List.nodup_nil
  | k :: ks, v, u, h => by
    rcases spots_or h.2 with q | ⟨x, k1, k2, k3, rfl, q1, q2, q3, q4⟩
    · by_cases hv : v ∈ spots gs (one gs k) ks
      · obtain ⟨k1, k2, rfl, r1, r2, r3⟩ := spots_mem h.2 hv
        exact .inr ⟨v, [], k :: k1, k2, rfl, rfl, ⟨h.1, r1⟩, r2, List.cons_ne_nil _ _⟩
      · exact .inl (List.nodup_cons.mpr ⟨hv, q⟩)
    · exact .inr ⟨x, k :: k1, k2, k3, rfl, ⟨h.1, q1⟩, q2, q3, q4⟩
theorem BI.spots_lt (I : BI gs n lo s) : ∀ {ks : List Nat} {v u : Nat}, Chain gs s.2 v ks u → ∀ x ∈ spots gs v ks, x < n
  | [], _, _, _, x, hx => by cases hx
  | k :: ks, v, u, h, x, hx => by
    rcases List.mem_cons.mp hx with e | hx
    · rw [e]; exact (I.edge v k h.1).2.2.1
    · exact I.spots_lt h.2 x hx
/-- a chain longer than n holds a ring -/
theorem BI.long (I : BI gs n lo s) {ks : List Nat} {v u : Nat} (h : Chain gs s.2 v ks u) (hl : n < ks.length) : ∃ x k1 k2 k3, ks = k1 ++ (k2 ++ k3) ∧ Chain gs s.2 v k1 x ∧ Chain gs s.2 x k2 x ∧ Chain gs s.2 x k3 u ∧ k2 ≠ [] := by
  rcases spots_or h with q | q
  · have := nodup_lt q (I.spots_lt h)
    rw [spots_len] at this
    omega
  · exact q
/-- one that ends where nothing is told is short -/
theorem BI.short (I : BI gs n lo s) {ks : List Nat} {v u : Nat} (h : Chain gs s.2 v ks u) (hu : T s.2 u = none) : ks.length ≤ n ∧ (u < n → ks.length < n) := by
  have key : (spots gs v ks).Nodup := by
    rcases spots_or h with q | ⟨x, k1, k2, k3, rfl, q1, q2, q3, q4⟩
    · exact q
    · exfalso
      obtain ⟨rest, e1, e2⟩ := chain_det q3 (chain_app q2 q3) (by simp)
      cases rest with
      | nil =>
        rw [List.append_nil] at e1
        have := congrArg List.length e1
        simp at this
        exact q4 this
      | cons k r => cases hu.symm.trans e2.1
  refine ⟨?_, fun hn => ?_⟩
  · have := nodup_lt key (I.spots_lt h)
    rw [spots_len] at this
    exact this
  · have hu' : u ∉ spots gs v ks := fun hm => by
      obtain ⟨k1, k2, _, _, q2, q3⟩ := spots_mem h hm
      cases k2 with
      | nil => exact q3 rfl
      | cons k r => cases hu.symm.trans q2.1
    have := nodup_lt (l := u :: spots gs v ks) (List.nodup_cons.mpr ⟨hu', key⟩) (n := n) fun x hx => by
      rcases List.mem_cons.mp hx with e | hx
      · rw [e]; exact hn
      · exact I.spots_lt h x hx
    simp [spots_len] at this
    omega
theorem follow {t : Tl} (v : Nat) : ∀ r : Nat, (∃ ks u, ks.length = r ∧ Chain gs t v ks u) ∨ ∃ ks u, ks.length < r ∧ Chain gs t v ks u ∧ T t u = none
  | 0 => .inl ⟨[], v, rfl, rfl⟩
  | r + 1 => by
    rcases follow v r with ⟨ks, u, h1, h2⟩ | ⟨ks, u, h1, h2, h3⟩
    · cases e : T t u with
      | none => exact .inr ⟨ks, u, by omega, h2, e⟩
      | some k => exact .inl ⟨ks ++ [k], one gs k, by simp [h1], chain_app h2 ⟨e, rfl⟩⟩
    · exact .inr ⟨ks, u, by omega, h2, h3⟩
/-- a gap that would still raise, behind n rounds or more: what stands behind never ends -/
theorem raised_ring (ok : ∀ g ∈ gs, GapOk n g) (hlo : lo.length = n) {r : Nat} (hr : n ≤ r) (hs : s = rounds gs r (lo, List.replicate n none)) {k : Nat} (hk : k < gs.length) (hraise : A s.1 (oth gs k) < A s.1 (one gs k) + wt gs k) {ks : List Nat} {u : Nat} (h : Chain gs s.2 (one gs k) ks u) : T s.2 u ≠ none := by
  intro hu
  have I : BI gs n lo s := by rw [hs]; exact BI.rounds ok r (BI.start hlo)
  have hn : one gs k < n := (ok _ (mem_gap hk)).1
  have hun : u < n := by
    cases ks with
    | nil => cases h; exact hn
    | cons k0 k1 =>
      have : ∀ {ks : List Nat} {v u : Nat}, Way gs v ks u → v < n → u < n := fun {ks} => by
        induction ks with
        | nil => intro v u h hv; cases h; exact hv
        | cons k ks ih => intro v u h hv; exact ih h.2.2 (ok _ (mem_gap h.1)).1
      exact this (I.way h) hn
  have hl := (I.short h hu).2 hun
  have h1 := I.chain_le h
  rw [I.root u hu] at h1
  have hw : Way gs (oth gs k) (k :: ks) u := ⟨hk, rfl, I.way h⟩
  have h2 := rounds_way (gs := gs) (lo, List.replicate n none) (fun g hg => by rw [show (lo, List.replicate n (none : Option Nat)).1.length = n from hlo]; exact (ok g hg).2.1) r hw (by simp; omega)
  rw [← hs, W_cons] at h2
  simp only at h2
  omega
/-! ### years that suit -/
abbrev Span := Int × Int
def slo (sp : List Span) (i : Nat) : Int := (sp.getD i (0, 0)).1
def shi (sp : List Span) (i : Nat) : Int := (sp.getD i (0, 0)).2
structure Sol (sp : List Span) (gs : List Gap) (x : List Int) : Prop where
  len : x.length = sp.length
  low : ∀ i, i < sp.length → slo sp i ≤ A x i
  high : ∀ i, i < sp.length → A x i ≤ shi sp i
  gap : ∀ g ∈ gs, A x g.1 + g.2.2 ≤ A x g.2.1
structure Sys (sp : List Span) (gs : List Gap) : Prop where
  few : sp.length ≤ 7
  span : ∀ z ∈ sp, -1000 ≤ z.1 ∧ z.1 ≤ z.2 ∧ z.2 ≤ 1000
  gfew : gs.length ≤ 20
  gap : ∀ g ∈ gs, GapOk sp.length g
  gsz : ∀ g ∈ gs, -3000 ≤ g.2.2 ∧ g.2.2 ≤ 3000
def los (sp : List Span) : List Int := sp.map (·.1)
def grow (sp : List Span) (gs : List Gap) (r : Nat) : St := rounds gs r (los sp, List.replicate sp.length none)
theorem A_los (sp : List Span) (i : Nat) : A (los sp) i = slo sp i := by
  unfold A los slo
  rw [List.getD_eq_getElem?_getD, List.getD_eq_getElem?_getD, List.getElem?_map]
  cases sp[i]? <;> rfl
theorem los_len (sp : List Span) : (los sp).length = sp.length := by simp [los]
variable {sp : List Span}
theorem grow_bi (h : Sys sp gs) (r : Nat) : BI gs sp.length (los sp) (grow sp gs r) := BI.rounds h.gap r (BI.start (los_len sp))
/-- some gap would still raise -/
def Raised (gs : List Gap) (y : List Int) : Prop := ∃ k, k < gs.length ∧ A y (oth gs k) < A y (one gs k) + wt gs k
theorem not_raised {y : List Int} (h : ¬ Raised gs y) : ∀ g ∈ gs, A y g.1 + g.2.2 ≤ A y g.2.1 := fun g hg => by
  obtain ⟨k, hk, e⟩ := List.mem_iff_getElem.mp hg
  have e' : gs[k]? = some g := by rw [List.getElem?_eq_getElem hk, e]
  have e1 : one gs k = g.1 := by simp [one, List.getD_eq_getElem?_getD, e']
  have e2 : oth gs k = g.2.1 := by simp [oth, List.getD_eq_getElem?_getD, e']
  have e3 : wt gs k = g.2.2 := by simp [wt, List.getD_eq_getElem?_getD, e']
  rcases Int.lt_or_le (A y g.2.1) (A y g.1 + g.2.2) with q | q
  · exact absurd ⟨k, hk, by rw [e1, e2, e3]; exact q⟩ h
  · exact q
theorem way_le {y : List Int} (h : ∀ g ∈ gs, A y g.1 + g.2.2 ≤ A y g.2.1) : ∀ {ks : List Nat} {v u : Nat}, Way gs v ks u → A y u + W gs ks ≤ A y v
  | [], _, _, e => by cases e; simp [W]
  | k :: ks, v, u, e => by
    have h1 := h _ (mem_gap e.1)
    have h2 := way_le h e.2.2
    have h3 := e.2.1
    simp only at h1
    rw [h3] at h1
    rw [W_cons]
    omega
/-- behind a raised gap: a ring of gaps, found from any far enough place -/
theorem raised_cycle (h : Sys sp gs) {r : Nat} (hr : sp.length ≤ r) {k : Nat} (hk : k < gs.length) (hraise : A (grow sp gs r).1 (oth gs k) < A (grow sp gs r).1 (one gs k) + wt gs k) :
    ∃ ks u c, ks.length = sp.length + 1 ∧ Chain gs (grow sp gs r).2 (one gs k) ks u ∧ c ≠ [] ∧ Chain gs (grow sp gs r).2 u c u ∧ c.length ≤ sp.length + 1 := by
  have I := grow_bi h r
  have nv := fun {ks u} => raised_ring (ks := ks) (u := u) h.gap (los_len sp) hr (s := grow sp gs r) rfl hk hraise
  rcases follow (gs := gs) (t := (grow sp gs r).2) (one gs k) (sp.length + 1) with ⟨ks, u, h1, h2⟩ | ⟨ks, u, _, h2, h3⟩
  · refine ⟨ks, u, ?_⟩
    obtain ⟨x, k1, k2, k3, rfl, q1, q2, q3, q4⟩ := I.long h2 (by omega)
    -- from u on: x's ring again
    have rot : ∀ {k3 : List Nat} {x u : Nat} {k2 : List Nat}, Chain gs (grow sp gs r).2 x k2 x → Chain gs (grow sp gs r).2 x k3 u → k2 ≠ [] → ∃ c, c ≠ [] ∧ Chain gs (grow sp gs r).2 u c u ∧ c.length = k2.length := fun {k3} => by
      induction k3 with
      | nil => intro x u k2 a b c; cases b; exact ⟨k2, c, a, rfl⟩
      | cons k ks ih =>
        intro x u k2 a b c
        cases k2 with
        | nil => exact absurd rfl c
        | cons k' k2 =>
          have e : k' = k := Option.some.inj (a.1.symm.trans b.1)
          subst e
          obtain ⟨c, c1, c2, c3⟩ := ih (k2 := k2 ++ [k']) (chain_app a.2 ⟨a.1, rfl⟩) b.2 (by simp)
          exact ⟨c, c1, c2, by rw [c3]; simp⟩
    obtain ⟨c, c1, c2, c3⟩ := rot q2 q3 q4
    exact ⟨c, h1, h2, c1, c2, by rw [c3, ← h1]; simp; omega⟩
  · exact absurd h3 (nv h2)
theorem raised_not (h : Sys sp gs) {r : Nat} (hr : sp.length ≤ r) (hR : Raised gs (grow sp gs r).1) {y : List Int} (hy : ∀ g ∈ gs, A y g.1 + g.2.2 ≤ A y g.2.1) : False := by
  obtain ⟨k, hk, hraise⟩ := hR
  obtain ⟨ks, u, c, _, _, c1, c2, _⟩ := raised_cycle h hr hk hraise
  have I := grow_bi h r
  have p := I.cyc u c c1 c2
  have q := way_le hy (I.way c2)
  omega
theorem raised_all (h : Sys sp gs) {r r' : Nat} (hr : sp.length ≤ r) (hR : Raised gs (grow sp gs r).1) : Raised gs (grow sp gs r').1 :=
  Classical.byContradiction fun hn => raised_not h hr hR (not_raised hn)
/-- never above years that suit -/
theorem upd_under {k : Nat} {g : Gap} {s : St} {x : List Int} (hb : g.2.1 < s.1.length) (hx : A x g.1 + g.2.2 ≤ A x g.2.1) (h : ∀ i, A s.1 i ≤ A x i) : ∀ i, A (upd1 k g s).1 i ≤ A x i := fun i => by
  unfold upd1
  split
  · simp only; rw [A_set hb]; split
    · rename_i e
      have := h g.1
      rw [e]; omega
    · exact h i
  · exact h i
theorem roundK_under {x : List Int} : ∀ (gs : List Gap) (k : Nat) (s : St), (∀ g ∈ gs, g.2.1 < s.1.length) → (∀ g ∈ gs, A x g.1 + g.2.2 ≤ A x g.2.1) → (∀ i, A s.1 i ≤ A x i) → ∀ i, A (roundK k gs s).1 i ≤ A x i
  | [], _, _, _, _, h => h
  | g :: gs, k, s, hb, hx, h => roundK_under gs (k + 1) _ (fun y hy => by rw [upd_len]; exact hb y (List.mem_cons_of_mem _ hy)) (fun y hy => hx y (List.mem_cons_of_mem _ hy)) (upd_under (hb g List.mem_cons_self) (hx g List.mem_cons_self) h)
theorem rounds_under {x : List Int} (gs : List Gap) (hx : ∀ g ∈ gs, A x g.1 + g.2.2 ≤ A x g.2.1) : ∀ (r : Nat) (s : St), (∀ g ∈ gs, g.2.1 < s.1.length) → (∀ i, A s.1 i ≤ A x i) → ∀ i, A (rounds gs r s).1 i ≤ A x i
  | 0, _, _, h => h
  | r + 1, s, hb, h => rounds_under gs hx r _ (fun y hy => by rw [roundK_len]; exact hb y hy) (roundK_under gs 0 s hb hx h)
theorem A_out {y : List Int} {i : Nat} (h : y.length ≤ i) : A y i = 0 := by
  unfold A
  rw [List.getD_eq_getElem?_getD, List.getElem?_eq_none h]; rfl
theorem slo_out {i : Nat} (h : sp.length ≤ i) : slo sp i = 0 := by
  unfold slo
  rw [List.getD_eq_getElem?_getD, List.getElem?_eq_none h]; rfl
theorem slo_shi (h : Sys sp gs) {i : Nat} (hi : i < sp.length) : -1000 ≤ slo sp i ∧ slo sp i ≤ shi sp i ∧ shi sp i ≤ 1000 := by
  have e : sp.getD i (0, 0) = sp[i] := by rw [List.getD_eq_getElem?_getD, List.getElem?_eq_getElem hi]; rfl
  unfold slo shi
  rw [e]
  exact h.span _ (List.getElem_mem hi)
theorem grow_len (r : Nat) : (grow sp gs r).1.length = sp.length := by unfold grow; rw [rounds_len]; exact los_len sp
theorem grow_under (h : Sys sp gs) {x : List Int} (hl : x.length = sp.length) (hx : ∀ g ∈ gs, A x g.1 + g.2.2 ≤ A x g.2.1) (hlo : ∀ i, i < sp.length → slo sp i ≤ A x i) (r : Nat) : ∀ i, A (grow sp gs r).1 i ≤ A x i :=
  rounds_under gs hx r _ (fun g hg => by show g.2.1 < (los sp).length; rw [los_len]; exact (h.gap g hg).2.1) fun i => by
    show A (los sp) i ≤ _
    rw [A_los]
    by_cases hi : i < sp.length
    · exact hlo i hi
    · rw [slo_out (by omega), A_out (by omega)]; exact Int.le_refl _
theorem grow_ge (h : Sys sp gs) (r : Nat) (i : Nat) : slo sp i ≤ A (grow sp gs r).1 i := by rw [← A_los]; exact (grow_bi h r).ge i
def least (sp : List Span) (gs : List Gap) : List Int := (grow sp gs sp.length).1
/-- where some years suit: the least -/
theorem least_sol (h : Sys sp gs) {x : List Int} (hx : Sol sp gs x) : ¬ Raised gs (least sp gs) ∧ Sol sp gs (least sp gs) ∧ ∀ i, A (least sp gs) i ≤ A x i := by
  have h1 : ¬ Raised gs (least sp gs) := fun hR => raised_not h (Nat.le_refl _) hR hx.gap
  have h2 := grow_under h hx.len hx.gap hx.low sp.length
  exact ⟨h1, ⟨grow_len _, fun i _ => grow_ge h _ i, fun i hi => Int.le_trans (h2 i) (hx.high i hi), not_raised h1⟩, h2⟩
/-- where none do, and no gap would raise, some find is late -/
theorem late_or (h : Sys sp gs) (h1 : ¬ Raised gs (least sp gs)) : Sol sp gs (least sp gs) ∨ ∃ v, v < sp.length ∧ shi sp v < A (least sp gs) v := by
  by_cases hl : ∃ v, v < sp.length ∧ shi sp v < A (least sp gs) v
  · exact .inr hl
  · exact .inl ⟨grow_len _, fun i _ => grow_ge h _ i, fun i hi => Int.not_lt.mp fun z => hl ⟨i, hi, z⟩, not_raised h1⟩
/-- the way to a late find ends -/
theorem late_way (h : Sys sp gs) (h1 : ¬ Raised gs (least sp gs)) (v : Nat) : ∃ ks u, ks.length ≤ sp.length ∧ Chain gs (grow sp gs sp.length).2 v ks u ∧ T (grow sp gs sp.length).2 u = none ∧ A (least sp gs) v ≤ slo sp u + W gs ks := by
  have I := grow_bi h sp.length
  rcases follow (gs := gs) (t := (grow sp gs sp.length).2) v (sp.length + 1) with ⟨ks, u, h3, h2⟩ | ⟨ks, u, h3, h2, h4⟩
  · exfalso
    obtain ⟨x, k1, k2, k3, rfl, q1, q2, q3, q4⟩ := I.long h2 (by omega)
    have p := I.cyc x k2 q4 q2
    have q := way_le (not_raised h1) (I.way q2)
    omega
  · refine ⟨ks, u, by omega, h2, h4, ?_⟩
    have := I.chain_le h2
    rw [I.root u h4, A_los] at this
    exact this
end
end K64

set_option Elab.async false
set_option linter.all false
set_option maxRecDepth 100000
set_option maxHeartbeats 4000000
/-! K64 math 2: turned round, bounds, rows of years. -/
namespace K64
theorem A_get {x : List Int} {i : Nat} (h : i < x.length) : A x i = x[i] := by
  unfold A; rw [List.getD_eq_getElem?_getD, List.getElem?_eq_getElem h]; rfl
theorem row_ext {x y : List Int} (hl : x.length = y.length) (h : ∀ i, i < x.length → A x i = A y i) : x = y := by
  refine List.ext_getElem hl fun i h1 h2 => ?_
  have := h i h1
  rwa [A_get h1, A_get h2] at this
def ngx (x : List Int) : List Int := x.map fun y => -y
theorem A_ngx (x : List Int) (i : Nat) : A (ngx x) i = - A x i := by
  unfold A ngx
  rw [List.getD_eq_getElem?_getD, List.getD_eq_getElem?_getD, List.getElem?_map]
  cases x[i]? <;> simp
theorem ngx_ngx (x : List Int) : ngx (ngx x) = x := by
  unfold ngx
  rw [List.map_map]
  have : ((fun y : Int => -y) ∘ fun y : Int => -y) = id := by funext y; simp
  rw [this, List.map_id]
def nsp (sp : List Span) : List Span := sp.map fun s => (-s.2, -s.1)
def tgs (gs : List Gap) : List Gap := gs.map fun g => (g.2.1, g.1, g.2.2)
theorem nsp_len (sp : List Span) : (nsp sp).length = sp.length := by simp [nsp]
theorem slo_nsp (sp : List Span) (i : Nat) : slo (nsp sp) i = - shi sp i := by
  unfold slo shi nsp
  rw [List.getD_eq_getElem?_getD, List.getD_eq_getElem?_getD, List.getElem?_map]
  cases sp[i]? <;> simp
theorem shi_nsp (sp : List Span) (i : Nat) : shi (nsp sp) i = - slo sp i := by
  unfold slo shi nsp
  rw [List.getD_eq_getElem?_getD, List.getD_eq_getElem?_getD, List.getElem?_map]
  cases sp[i]? <;> simp
section
variable {sp : List Span} {gs : List Gap}
theorem Sys.neg (h : Sys sp gs) : Sys (nsp sp) (tgs gs) := by
  refine ⟨by rw [nsp_len]; exact h.few, fun z hz => ?_, by simp [tgs]; exact h.gfew, fun g hg => ?_, fun g hg => ?_⟩
  · obtain ⟨s, hs, rfl⟩ := List.mem_map.mp hz
    have := h.span s hs
    simp only
    omega
  · obtain ⟨q, hq, rfl⟩ := List.mem_map.mp hg
    have := h.gap q hq
    rw [nsp_len]
    exact ⟨this.2.1, this.1, fun z => this.2.2 z.symm⟩
  · obtain ⟨q, hq, rfl⟩ := List.mem_map.mp hg
    exact h.gsz q hq
theorem Sol.neg {x : List Int} (h : Sol sp gs x) : Sol (nsp sp) (tgs gs) (ngx x) := by
  refine ⟨by simp [ngx, nsp, h.len], fun i hi => ?_, fun i hi => ?_, fun g hg => ?_⟩
  · rw [nsp_len] at hi
    have := h.high i hi
    rw [slo_nsp, A_ngx]; omega
  · rw [nsp_len] at hi
    have := h.low i hi
    rw [shi_nsp, A_ngx]; omega
  · obtain ⟨q, hq, rfl⟩ := List.mem_map.mp hg
    have := h.gap q hq
    simp only
    rw [A_ngx, A_ngx]; omega
theorem nsp_nsp (sp : List Span) : nsp (nsp sp) = sp := by
  unfold nsp
  rw [List.map_map]
  have : ((fun s : Span => ((-s.2, -s.1) : Span)) ∘ fun s : Span => (-s.2, -s.1)) = id := by funext y; simp
  rw [this, List.map_id]
theorem tgs_tgs (gs : List Gap) : tgs (tgs gs) = gs := by
  unfold tgs
  rw [List.map_map]
  have : ((fun g : Gap => ((g.2.1, g.1, g.2.2) : Gap)) ∘ fun g : Gap => (g.2.1, g.1, g.2.2)) = id := by funext y; rfl
  rw [this, List.map_id]
theorem Sol.of_neg {x : List Int} (h : Sol (nsp sp) (tgs gs) (ngx x)) : Sol sp gs x := by
  have := h.neg
  rwa [nsp_nsp, tgs_tgs, ngx_ngx] at this
def most (sp : List Span) (gs : List Gap) : List Int := ngx (least (nsp sp) (tgs gs))
theorem most_sol (h : Sys sp gs) {x : List Int} (hx : Sol sp gs x) : Sol sp gs (most sp gs) ∧ ∀ i, A x i ≤ A (most sp gs) i := by
  obtain ⟨_, h2, h3⟩ := least_sol h.neg hx.neg
  refine ⟨?_, fun i => ?_⟩
  · unfold most
    refine Sol.of_neg ?_
    rw [ngx_ngx]
    exact h2
  · unfold most
    have := h3 i
    rw [A_ngx] at this ⊢
    omega
def bnds (sp : List Span) (gs : List Gap) : List Span := (List.range sp.length).map fun k => (A (least sp gs) k, A (most sp gs) k)
/-- years that suit, by twos: the lesser, the greater -/
theorem Sol.min {x y : List Int} (hx : Sol sp gs x) (hy : Sol sp gs y) (h : Sys sp gs) : Sol sp gs ((List.range sp.length).map fun k => min (A x k) (A y k)) := by
  have e : ∀ i, i < sp.length → A ((List.range sp.length).map fun k => Min.min (A x k) (A y k)) i = Min.min (A x i) (A y i) := fun i hi => by
    unfold A
    rw [List.getD_eq_getElem?_getD, List.getElem?_map, List.getElem?_range hi]; rfl
  refine ⟨by simp, fun i hi => ?_, fun i hi => ?_, fun g hg => ?_⟩
  · rw [e i hi]; have := hx.low i hi; have := hy.low i hi; omega
  · rw [e i hi]; have := hx.high i hi; have := hy.high i hi; omega
  · obtain ⟨h1, h2, _⟩ := h.gap g hg
    rw [e _ h1, e _ h2]; have := hx.gap g hg; have := hy.gap g hg; omega
theorem Sol.max {x y : List Int} (hx : Sol sp gs x) (hy : Sol sp gs y) (h : Sys sp gs) : Sol sp gs ((List.range sp.length).map fun k => max (A x k) (A y k)) := by
  have e : ∀ i, i < sp.length → A ((List.range sp.length).map fun k => Max.max (A x k) (A y k)) i = Max.max (A x i) (A y i) := fun i hi => by
    unfold A
    rw [List.getD_eq_getElem?_getD, List.getElem?_map, List.getElem?_range hi]; rfl
  refine ⟨by simp, fun i hi => ?_, fun i hi => ?_, fun g hg => ?_⟩
  · rw [e i hi]; have := hx.low i hi; have := hy.low i hi; omega
  · rw [e i hi]; have := hx.high i hi; have := hy.high i hi; omega
  · obtain ⟨h1, h2, _⟩ := h.gap g hg
    rw [e _ h1, e _ h2]; have := hx.gap g hg; have := hy.gap g hg; omega
end
/-! ### rows of years -/
def yrs (s : Span) : List Int := (List.range (s.2 + 1 - s.1).toNat).map fun k => s.1 + ((k : Nat) : Int)
theorem mem_yrs {s : Span} {y : Int} : y ∈ yrs s ↔ s.1 ≤ y ∧ y ≤ s.2 := by
  unfold yrs
  rw [List.mem_map]
  constructor
  · rintro ⟨k, hk, rfl⟩
    have := List.mem_range.mp hk
    omega
  · intro ⟨h1, h2⟩
    exact ⟨(y - s.1).toNat, List.mem_range.mpr (by omega), by omega⟩
theorem yrs_nodup (s : Span) : (yrs s).Nodup := by
  unfold yrs
  rw [List.nodup_iff_pairwise_ne]
  exact List.Pairwise.map _ (fun a b h z => h (by omega)) (List.nodup_iff_pairwise_ne.mp List.nodup_range)
theorem yrs_len (s : Span) : (yrs s).length = (s.2 + 1 - s.1).toNat := by simp [yrs]
def grown1 (rows : List (List Int)) (s : Span) : List (List Int) := rows.flatMap fun r => (yrs s).map fun y => r ++ [y]
theorem mem_grown1 {rows : List (List Int)} {s : Span} {x : List Int} : x ∈ grown1 rows s ↔ ∃ r ∈ rows, ∃ y, (s.1 ≤ y ∧ y ≤ s.2) ∧ x = r ++ [y] := by
  unfold grown1
  rw [List.mem_flatMap]
  constructor
  · rintro ⟨r, hr, hx⟩
    obtain ⟨y, hy, rfl⟩ := List.mem_map.mp hx
    exact ⟨r, hr, y, mem_yrs.mp hy, rfl⟩
  · rintro ⟨r, hr, y, hy, rfl⟩
    exact ⟨r, hr, List.mem_map.mpr ⟨y, mem_yrs.mpr hy, rfl⟩⟩
theorem grown1_nodup {rows : List (List Int)} {s : Span} (h : rows.Nodup) : (grown1 rows s).Nodup := by
  unfold grown1
  rw [List.nodup_iff_pairwise_ne, List.pairwise_flatMap]
  refine ⟨fun r _ => List.Pairwise.map _ (fun a b hab z => hab (by simpa using List.append_inj_right z rfl)) (List.nodup_iff_pairwise_ne.mp (yrs_nodup s)), ?_⟩
  · refine List.Pairwise.imp ?_ (List.nodup_iff_pairwise_ne.mp h)
    intro a b hab x hx y hy z
    obtain ⟨u, _, rfl⟩ := List.mem_map.mp hx
    obtain ⟨v, _, rfl⟩ := List.mem_map.mp hy
    exact hab (List.append_inj_left' z rfl)
theorem grown1_len {rows : List (List Int)} {s : Span} : (grown1 rows s).length = rows.length * (s.2 + 1 - s.1).toNat := by
  unfold grown1
  rw [List.length_flatMap]
  induction rows with
  | nil => simp
  | cons r rows ih =>
    rw [List.map_cons, List.sum_cons, ih, List.length_map, yrs_len, List.length_cons, Nat.add_mul, Nat.one_mul, Nat.add_comm]
/-- by places -/
def InB (bl : List Span) (x : List Int) : Prop := x.length = bl.length ∧ ∀ i, i < bl.length → slo bl i ≤ A x i ∧ A x i ≤ shi bl i
theorem A_app_lt {x y : List Int} {i : Nat} (h : i < x.length) : A (x ++ y) i = A x i := by
  unfold A
  rw [List.getD_eq_getElem?_getD, List.getD_eq_getElem?_getD, List.getElem?_append_left h]
theorem A_app_ge {x y : List Int} {i : Nat} (h : x.length ≤ i) : A (x ++ y) i = A y (i - x.length) := by
  unfold A
  rw [List.getD_eq_getElem?_getD, List.getD_eq_getElem?_getD, List.getElem?_append_right h]
theorem slo_app_lt {x y : List Span} {i : Nat} (h : i < x.length) : slo (x ++ y) i = slo x i := by
  unfold slo
  rw [List.getD_eq_getElem?_getD, List.getD_eq_getElem?_getD, List.getElem?_append_left h]
theorem shi_app_lt {x y : List Span} {i : Nat} (h : i < x.length) : shi (x ++ y) i = shi x i := by
  unfold shi
  rw [List.getD_eq_getElem?_getD, List.getD_eq_getElem?_getD, List.getElem?_append_left h]
theorem slo_app_ge {x y : List Span} {i : Nat} (h : x.length ≤ i) : slo (x ++ y) i = slo y (i - x.length) := by
  unfold slo
  rw [List.getD_eq_getElem?_getD, List.getD_eq_getElem?_getD, List.getElem?_append_right h]
theorem shi_app_ge {x y : List Span} {i : Nat} (h : x.length ≤ i) : shi (x ++ y) i = shi y (i - x.length) := by
  unfold shi
  rw [List.getD_eq_getElem?_getD, List.getD_eq_getElem?_getD, List.getElem?_append_right h]
theorem inB_snoc {bl : List Span} {s : Span} {x : List Int} : InB (bl ++ [s]) x ↔ ∃ r, InB bl r ∧ ∃ y, (s.1 ≤ y ∧ y ≤ s.2) ∧ x = r ++ [y] := by
  constructor
  · intro ⟨h1, h2⟩
    rw [List.length_append, List.length_singleton] at h1 h2
    have hne : x ≠ [] := fun z => by subst z; simp at h1
    refine ⟨x.dropLast, ⟨by simp; omega, fun i hi => ?_⟩, x.getLast hne, ?_, (List.dropLast_concat_getLast hne).symm⟩
    · have := h2 i (by omega)
      rw [slo_app_lt hi, shi_app_lt hi] at this
      have e : A x i = A x.dropLast i := by
        conv => lhs; rw [← List.dropLast_concat_getLast hne]
        exact A_app_lt (by simp; omega)
      rwa [e] at this
    · have := h2 bl.length (by omega)
      rw [slo_app_ge (Nat.le_refl _), shi_app_ge (Nat.le_refl _), Nat.sub_self] at this
      have e : A x bl.length = x.getLast hne := by
        conv => lhs; rw [← List.dropLast_concat_getLast hne]
        rw [A_app_ge (by simp; omega)]
        have : bl.length - x.dropLast.length = 0 := by simp; omega
        rw [this]; rfl
      rw [e] at this
      exact this
  · rintro ⟨r, ⟨h1, h2⟩, y, hy, rfl⟩
    refine ⟨by simp [h1], fun i hi => ?_⟩
    rw [List.length_append, List.length_singleton] at hi
    by_cases hlt : i < bl.length
    · rw [slo_app_lt hlt, shi_app_lt hlt, A_app_lt (by omega)]
      exact h2 i hlt
    · have e : i = bl.length := by omega
      subst e
      rw [slo_app_ge (Nat.le_refl _), shi_app_ge (Nat.le_refl _), A_app_ge (by omega), h1, Nat.sub_self]
      exact hy
def suitsB (gs : List Gap) (x : List Int) : Bool := gs.all fun g => !(decide (g.1 < x.length) && decide (g.2.1 < x.length) && decide (A x g.2.1 - A x g.1 < g.2.2))
def Suits (gs : List Gap) (x : List Int) : Prop := ∀ g ∈ gs, g.1 < x.length → g.2.1 < x.length → A x g.1 + g.2.2 ≤ A x g.2.1
theorem suitsB_iff {gs : List Gap} {x : List Int} : suitsB gs x = true ↔ Suits gs x := by
  unfold suitsB Suits
  rw [List.all_eq_true]
  refine forall_congr' fun g => forall_congr' fun hg => ?_
  by_cases h1 : g.1 < x.length <;> by_cases h2 : g.2.1 < x.length <;> simp [h1, h2] <;> omega
theorem Suits.pre {gs : List Gap} {r : List Int} {y : List Int} (h : Suits gs (r ++ y)) : Suits gs r := fun g hg h1 h2 => by
  have := h g hg (by rw [List.length_append]; omega) (by rw [List.length_append]; omega)
  rwa [A_app_lt h1, A_app_lt h2] at this
/-- the rows of the count -/
def cntRows (gs : List Gap) (bl : List Span) : List (List Int) := bl.foldl (fun rows s => (grown1 rows s).filter (suitsB gs)) [[]]
theorem cntRows_snoc (gs : List Gap) (bl : List Span) (s : Span) : cntRows gs (bl ++ [s]) = (grown1 (cntRows gs bl) s).filter (suitsB gs) := by
  unfold cntRows; rw [List.foldl_append]; rfl
theorem snoc_ind {α : Type} {P : List α → Prop} (h0 : P []) (h1 : ∀ l a, P l → P (l ++ [a])) (l : List α) : P l := by
  have : ∀ l : List α, P l.reverse := fun l => by
    induction l with
    | nil => exact h0
    | cons a l ih => rw [List.reverse_cons]; exact h1 _ _ ih
  have := this l.reverse
  rwa [List.reverse_reverse] at this
theorem cntRows_ok (gs : List Gap) (bl : List Span) : (cntRows gs bl).Nodup ∧ ∀ x, x ∈ cntRows gs bl ↔ InB bl x ∧ Suits gs x := by
  induction bl using snoc_ind with
  | h0 =>
    refine ⟨by simp [cntRows], fun x => ?_⟩
    show x ∈ [[]] ↔ _
    constructor
    · intro h
      have e : x = [] := by simpa using h
      subst e
      exact ⟨⟨rfl, fun i hi => by simp at hi⟩, fun g _ h1 => by simp at h1⟩
    · intro ⟨⟨h1, _⟩, _⟩
      have : x = [] := List.length_eq_zero_iff.mp h1
      simp [this]
  | h1 bl s ih =>
    rw [cntRows_snoc]
    refine ⟨List.nodup_iff_pairwise_ne.mpr (List.Pairwise.filter _ (List.nodup_iff_pairwise_ne.mp (grown1_nodup ih.1))), fun x => ?_⟩
    rw [List.mem_filter, mem_grown1, suitsB_iff, inB_snoc]
    constructor
    · rintro ⟨⟨r, hr, y, hy, rfl⟩, h2⟩
      exact ⟨⟨r, ((ih.2 r).mp hr).1, y, hy, rfl⟩, h2⟩
    · rintro ⟨⟨r, hr, y, hy, rfl⟩, h2⟩
      exact ⟨⟨r, (ih.2 r).mpr ⟨hr, h2.pre⟩, y, hy, rfl⟩, h2⟩
def allRows (bl : List Span) : List (List Int) := bl.foldl grown1 [[]]
theorem allRows_snoc (bl : List Span) (s : Span) : allRows (bl ++ [s]) = grown1 (allRows bl) s := by
  unfold allRows; rw [List.foldl_append]; rfl
theorem allRows_ok (bl : List Span) : (allRows bl).Nodup ∧ ∀ x, x ∈ allRows bl ↔ InB bl x := by
  induction bl using snoc_ind with
  | h0 =>
    refine ⟨by simp [allRows], fun x => ?_⟩
    show x ∈ [[]] ↔ _
    constructor
    · intro h
      have e : x = [] := by simpa using h
      subst e
      exact ⟨rfl, fun i hi => by simp at hi⟩
    · intro ⟨h1, _⟩
      have : x = [] := List.length_eq_zero_iff.mp h1
      simp [this]
  | h1 bl s ih =>
    rw [allRows_snoc]
    refine ⟨grown1_nodup ih.1, fun x => ?_⟩
    rw [mem_grown1, inB_snoc]
    constructor
    · rintro ⟨r, hr, y, hy, rfl⟩
      exact ⟨r, (ih.2 r).mp hr, y, hy, rfl⟩
    · rintro ⟨r, hr, y, hy, rfl⟩
      exact ⟨r, (ih.2 r).mpr hr, y, hy, rfl⟩
section
variable {sp : List Span} {gs : List Gap}
theorem sol_iff (h : Sys sp gs) {x : List Int} : Sol sp gs x ↔ InB sp x ∧ Suits gs x := by
  constructor
  · intro q
    exact ⟨⟨q.len, fun i hi => ⟨q.low i hi, q.high i hi⟩⟩, fun g hg _ _ => q.gap g hg⟩
  · rintro ⟨⟨h1, h2⟩, h3⟩
    refine ⟨h1, fun i hi => (h2 i hi).1, fun i hi => (h2 i hi).2, fun g hg => ?_⟩
    obtain ⟨a, b, _⟩ := h.gap g hg
    exact h3 g hg (by omega) (by omega)
theorem bnds_len : (bnds sp gs).length = sp.length := by simp [bnds]
theorem slo_bnds {i : Nat} (hi : i < sp.length) : slo (bnds sp gs) i = A (least sp gs) i := by
  unfold slo bnds
  rw [List.getD_eq_getElem?_getD, List.getElem?_map, List.getElem?_range hi]; rfl
theorem shi_bnds {i : Nat} (hi : i < sp.length) : shi (bnds sp gs) i = A (most sp gs) i := by
  unfold shi bnds
  rw [List.getD_eq_getElem?_getD, List.getElem?_map, List.getElem?_range hi]; rfl
/-- the count's rows are the rows that suit -/
theorem cnt_sol (h : Sys sp gs) (hs : Sol sp gs (least sp gs)) (x : List Int) : x ∈ cntRows gs (bnds sp gs) ↔ Sol sp gs x := by
  rw [(cntRows_ok gs (bnds sp gs)).2, sol_iff h]
  obtain ⟨_, l2, l3⟩ := least_sol h hs
  obtain ⟨m2, m3⟩ := most_sol h hs
  constructor
  · rintro ⟨⟨h1, h2⟩, h3⟩
    rw [bnds_len] at h1 h2
    refine ⟨⟨h1, fun i hi => ?_⟩, h3⟩
    have := h2 i hi
    rw [slo_bnds hi, shi_bnds hi] at this
    have := l2.low i hi
    have := m2.high i hi
    omega
  · rintro ⟨⟨h1, h2⟩, h3⟩
    have hx : Sol sp gs x := (sol_iff h).mpr ⟨⟨h1, h2⟩, h3⟩
    refine ⟨⟨by rw [bnds_len]; exact h1, fun i hi => ?_⟩, h3⟩
    rw [bnds_len] at hi
    rw [slo_bnds hi, shi_bnds hi]
    exact ⟨(least_sol h hx).2.2 i, (most_sol h hx).2 i⟩
theorem same_len {α : Type} {xs ys : List α} (h1 : xs.Nodup) (h2 : ys.Nodup) (h : ∀ x, x ∈ xs ↔ x ∈ ys) : xs.length = ys.length :=
  List.Perm.length_eq ((List.perm_ext_iff_of_nodup h1 h2).mpr h)
end
end K64

set_option Elab.async false
set_option linter.all false
set_option maxRecDepth 100000
set_option maxHeartbeats 4000000
/-! K64 math 3: least gaps, needless gaps, how many rows are counted. -/
namespace K64
section
variable {sp : List Span} {gs : List Gap}
/-- one find's year told -/
def fixd (sp : List Span) (i : Nat) (y : Int) : List Span := (sp.take i ++ [(y, y)]) ++ sp.drop (i + 1)
theorem fixd_len {i : Nat} {y : Int} (hi : i < sp.length) : (fixd sp i y).length = sp.length := by
  unfold fixd
  simp
  omega
theorem fixd_get {i : Nat} {y : Int} (hi : i < sp.length) (k : Nat) : (fixd sp i y)[k]? = if k = i then some (y, y) else sp[k]? := by
  unfold fixd
  by_cases h : k < i
  · rw [if_neg (by omega), List.append_assoc, List.getElem?_append_left (by simp; omega), List.getElem?_take, if_pos h]
  · by_cases e : k = i
    · subst e
      rw [if_pos rfl, List.append_assoc, List.getElem?_append_right (by simp; omega)]
      have : k - (sp.take k).length = 0 := by simp; omega
      rw [this]; rfl
    · rw [if_neg e, List.getElem?_append_right (by simp; omega), List.getElem?_drop]
      congr 1
      simp; omega
theorem slo_fixd {i : Nat} {y : Int} (hi : i < sp.length) (k : Nat) : slo (fixd sp i y) k = if k = i then y else slo sp k := by
  unfold slo
  rw [List.getD_eq_getElem?_getD, List.getD_eq_getElem?_getD, fixd_get hi]
  split <;> rfl
theorem shi_fixd {i : Nat} {y : Int} (hi : i < sp.length) (k : Nat) : shi (fixd sp i y) k = if k = i then y else shi sp k := by
  unfold shi
  rw [List.getD_eq_getElem?_getD, List.getD_eq_getElem?_getD, fixd_get hi]
  split <;> rfl
theorem Sys.fixd (h : Sys sp gs) {i : Nat} {y : Int} (hi : i < sp.length) (h1 : -1000 ≤ y) (h2 : y ≤ 1000) : Sys (fixd sp i y) gs := by
  refine ⟨by rw [fixd_len hi]; exact h.few, fun z hz => ?_, h.gfew, fun g hg => by rw [fixd_len hi]; exact h.gap g hg, h.gsz⟩
  obtain ⟨k, hk⟩ := List.mem_iff_getElem?.mp hz
  rw [fixd_get hi] at hk
  split at hk
  · cases hk; exact ⟨h1, Int.le_refl _, h2⟩
  · exact h.span z (List.mem_of_getElem? hk)
theorem sol_fixd {i : Nat} {y : Int} (hi : i < sp.length) (h1 : slo sp i ≤ y) (h2 : y ≤ shi sp i) {x : List Int} : Sol (fixd sp i y) gs x ↔ Sol sp gs x ∧ A x i = y := by
  constructor
  · intro q
    have l := q.len
    rw [fixd_len hi] at l
    have a := q.low i (by rw [fixd_len hi]; exact hi)
    have b := q.high i (by rw [fixd_len hi]; exact hi)
    rw [slo_fixd hi, if_pos rfl] at a
    rw [shi_fixd hi, if_pos rfl] at b
    have e : A x i = y := by omega
    refine ⟨⟨l, fun k hk => ?_, fun k hk => ?_, q.gap⟩, e⟩
    · have := q.low k (by rw [fixd_len hi]; exact hk)
      rw [slo_fixd hi] at this
      split at this
      · rename_i e2; subst e2; omega
      · exact this
    · have := q.high k (by rw [fixd_len hi]; exact hk)
      rw [shi_fixd hi] at this
      split at this
      · rename_i e2; subst e2; omega
      · exact this
  · rintro ⟨q, e⟩
    refine ⟨by rw [fixd_len hi]; exact q.len, fun k hk => ?_, fun k hk => ?_, q.gap⟩
    · rw [fixd_len hi] at hk
      rw [slo_fixd hi]
      split
      · rename_i e2; subst e2; omega
      · exact q.low k hk
    · rw [fixd_len hi] at hk
      rw [shi_fixd hi]
      split
      · rename_i e2; subst e2; omega
      · exact q.high k hk
/-- the least of all that suit: one -/
theorem least_eq (h : Sys sp gs) {y : List Int} (hy : Sol sp gs y) (hm : ∀ x, Sol sp gs x → ∀ i, A y i ≤ A x i) : least sp gs = y := by
  obtain ⟨_, l2, l3⟩ := least_sol h hy
  refine row_ext (by rw [l2.len, hy.len]) fun i _ => ?_
  have a := l3 i
  have b := hm _ l2 i
  omega
theorem most_eq (h : Sys sp gs) {y : List Int} (hy : Sol sp gs y) (hm : ∀ x, Sol sp gs x → ∀ i, A x i ≤ A y i) : most sp gs = y := by
  obtain ⟨l2, l3⟩ := most_sol h hy
  refine row_ext (by rw [l2.len, hy.len]) fun i _ => ?_
  have a := l3 i
  have b := hm _ l2 i
  omega
theorem bnds_same {gs' : List Gap} (h : Sys sp gs) (h' : Sys sp gs') {x : List Int} (hx : Sol sp gs x) (e : ∀ x, Sol sp gs' x ↔ Sol sp gs x) : bnds sp gs' = bnds sp gs := by
  obtain ⟨_, l2, _⟩ := least_sol h hx
  obtain ⟨m2, _⟩ := most_sol h hx
  have e1 := least_eq h' ((e _).mpr l2) fun z hz i => (least_sol h ((e z).mp hz)).2.2 i
  have e2 := most_eq h' ((e _).mpr m2) fun z hz i => (most_sol h ((e z).mp hz)).2 i
  unfold bnds
  rw [e1, e2]
def lgap (sp : List Span) (gs : List Gap) (i o : Nat) : Int := A (least (fixd sp i (A (most sp gs) i)) gs) o - A (most sp gs) i
theorem lgap_ok (h : Sys sp gs) {x : List Int} (hx : Sol sp gs x) {i o : Nat} (hi : i < sp.length) (ho : o < sp.length) : (∀ x, Sol sp gs x → lgap sp gs i o ≤ A x o - A x i) ∧ ∃ x, Sol sp gs x ∧ A x o - A x i = lgap sp gs i o := by
  obtain ⟨m2, m3⟩ := most_sol h hx
  have lo := m2.low i hi
  have hh := m2.high i hi
  have sb := slo_shi h hi
  have hf := h.fixd (y := A (most sp gs) i) hi (by omega) (by omega)
  have mf : Sol (fixd sp i (A (most sp gs) i)) gs (most sp gs) := (sol_fixd hi lo hh).mpr ⟨m2, rfl⟩
  obtain ⟨_, f2, f3⟩ := least_sol hf mf
  obtain ⟨g1, g2⟩ := (sol_fixd hi lo hh).mp f2
  refine ⟨fun x hx => ?_, _, g1, by unfold lgap; rw [g2]⟩
  have t := m3
  have mx : ∀ k, A x k ≤ A (most sp gs) k := (most_sol h hx).2
  have e : ∀ k, k < sp.length → A ((List.range sp.length).map fun k => min (A x k + (A (most sp gs) i - A x i)) (A (most sp gs) k)) k = min (A x k + (A (most sp gs) i - A x i)) (A (most sp gs) k) := fun k hk => by
    unfold A
    rw [List.getD_eq_getElem?_getD, List.getElem?_map, List.getElem?_range hk]; rfl
  have mi := mx i
  have ws : Sol (fixd sp i (A (most sp gs) i)) gs ((List.range sp.length).map fun k => min (A x k + (A (most sp gs) i - A x i)) (A (most sp gs) k)) := by
    refine (sol_fixd hi lo hh).mpr ⟨⟨by simp, fun k hk => ?_, fun k hk => ?_, fun g hg => ?_⟩, ?_⟩
    · rw [e k hk]; have := hx.low k hk; have := m2.low k hk; omega
    · rw [e k hk]; have := m2.high k hk; omega
    · obtain ⟨a, b, _⟩ := h.gap g hg
      rw [e _ a, e _ b]; have := hx.gap g hg; have := m2.gap g hg; omega
    · rw [e i hi]; omega
  have fin := (least_sol hf ws).2.2 o
  rw [e o ho] at fin
  unfold lgap
  omega
theorem lgap_bound (h : Sys sp gs) {x : List Int} (hx : Sol sp gs x) {i o : Nat} (hi : i < sp.length) (ho : o < sp.length) : -2000 ≤ lgap sp gs i o ∧ lgap sp gs i o ≤ 2000 := by
  obtain ⟨_, y, hy, e⟩ := lgap_ok h hx hi ho
  have a := slo_shi h hi
  have b := slo_shi h ho
  have c := hy.low i hi
  have d := hy.high i hi
  have p := hy.low o ho
  have q := hy.high o ho
  omega
theorem lgap_tri (h : Sys sp gs) {x : List Int} (hx : Sol sp gs x) {a b c : Nat} (ha : a < sp.length) (hb : b < sp.length) (hc : c < sp.length) : lgap sp gs a b + lgap sp gs b c ≤ lgap sp gs a c := by
  obtain ⟨_, y, hy, e⟩ := lgap_ok h hx ha hc
  have p := (lgap_ok h hx ha hb).1 y hy
  have q := (lgap_ok h hx hb hc).1 y hy
  omega
theorem lgap_self (h : Sys sp gs) {x : List Int} (hx : Sol sp gs x) {a : Nat} (ha : a < sp.length) : lgap sp gs a a = 0 := by
  obtain ⟨_, y, hy, e⟩ := lgap_ok h hx ha ha
  omega
/-- with the first year told it is no less -/
theorem lgap_first (h : Sys sp gs) {x : List Int} (hx : Sol sp gs x) {i o : Nat} (hi : i < sp.length) (ho : o < sp.length) : lgap sp gs i o ≤ A (least (fixd sp i (A (least sp gs) i)) gs) o - A (least sp gs) i := by
  obtain ⟨_, l2, _⟩ := least_sol h hx
  have lo := l2.low i hi
  have hh := l2.high i hi
  have sb := slo_shi h hi
  have hf := h.fixd (y := A (least sp gs) i) hi (by omega) (by omega)
  have mf : Sol (fixd sp i (A (least sp gs) i)) gs (least sp gs) := (sol_fixd hi lo hh).mpr ⟨l2, rfl⟩
  obtain ⟨_, f2, f3⟩ := least_sol hf mf
  obtain ⟨g1, g2⟩ := (sol_fixd hi lo hh).mp f2
  have := (lgap_ok h hx hi ho).1 _ g1
  omega
theorem Sys.gaps (h : Sys sp gs) {gs' : List Gap} (hl : gs'.length ≤ 20) (hm : ∀ g ∈ gs', g ∈ gs ∨ (GapOk sp.length g ∧ -3000 ≤ g.2.2 ∧ g.2.2 ≤ 3000)) : Sys sp gs' :=
  ⟨h.few, h.span, hl, fun g hg => (hm g hg).elim (h.gap g) (·.1), fun g hg => (hm g hg).elim (h.gsz g) (·.2)⟩
theorem sol_app {gs' : List Gap} {x : List Int} : Sol sp (gs ++ gs') x ↔ Sol sp gs x ∧ ∀ g ∈ gs', A x g.1 + g.2.2 ≤ A x g.2.1 := by
  constructor
  · intro q
    exact ⟨⟨q.len, q.low, q.high, fun g hg => q.gap g (List.mem_append_left _ hg)⟩, fun g hg => q.gap g (List.mem_append_right _ hg)⟩
  · rintro ⟨q, r⟩
    exact ⟨q.len, q.low, q.high, fun g hg => (List.mem_append.mp hg).elim (q.gap g) (r g)⟩
def remg (gs : List Gap) (k : Nat) : List Gap := gs.take k ++ gs.drop (k + 1)
theorem remg_mem {k : Nat} {g : Gap} (h : g ∈ remg gs k) : g ∈ gs := (List.mem_append.mp h).elim List.mem_of_mem_take List.mem_of_mem_drop
theorem remg_len (k : Nat) : (remg gs k).length ≤ gs.length := by unfold remg; simp; omega
theorem remg_last (g : Gap) : remg (gs ++ [g]) gs.length = gs := by
  unfold remg
  rw [List.take_left, List.drop_eq_nil_of_le (by simp), List.append_nil]
theorem Sys.rem (h : Sys sp gs) (k : Nat) : Sys sp (remg gs k) := h.gaps (Nat.le_trans (remg_len k) h.gfew) fun g hg => .inl (remg_mem hg)
theorem Sol.rem {x : List Int} (h : Sol sp gs x) (k : Nat) : Sol sp (remg gs k) x := ⟨h.len, h.low, h.high, fun g hg => h.gap g (remg_mem hg)⟩
def needl (sp : List Span) (gs : List Gap) : List Nat := (List.range gs.length).filter fun k => decide (bnds sp (remg gs k) = bnds sp gs)
/-! ### how many rows -/
def CountOk (gs : List Gap) (bl : List Span) : Prop := ∀ pre s post, bl = pre ++ s :: post → ((cntRows gs pre).length : Int) * (s.2 - s.1 + 1) ≤ 20000
theorem cntRows_len (gs : List Gap) (bl : List Span) (h : ∀ s ∈ bl, s.1 ≤ s.2 ∧ s.2 - s.1 ≤ 6) : (cntRows gs bl).length ≤ 7 ^ bl.length := by
  induction bl using snoc_ind with
  | h0 => show 1 ≤ 1; exact Nat.le_refl _
  | h1 bl s ih =>
    have ih' := ih fun z hz => h z (List.mem_append_left _ hz)
    have hs := h s (List.mem_append_right _ List.mem_cons_self)
    rw [cntRows_snoc]
    have a := List.length_filter_le (suitsB gs) (grown1 (cntRows gs bl) s)
    rw [grown1_len] at a
    have b : (cntRows gs bl).length * (s.2 + 1 - s.1).toNat ≤ 7 ^ bl.length * 7 := Nat.mul_le_mul ih' (by omega)
    rw [List.length_append, List.length_singleton, Nat.pow_succ]
    omega
theorem count_small {bl : List Span} (hl : bl.length ≤ 4) (h : ∀ s ∈ bl, s.1 ≤ s.2 ∧ s.2 - s.1 ≤ 6) : CountOk gs bl := fun pre s post e => by
  have hp : ∀ z ∈ pre, z.1 ≤ z.2 ∧ z.2 - z.1 ≤ 6 := fun z hz => h z (by rw [e]; simp [hz])
  have hs := h s (by rw [e]; simp)
  have a := cntRows_len gs pre hp
  have hpl : pre.length ≤ 3 := by
    have := congrArg List.length e
    simp at this
    omega
  have b : 7 ^ pre.length ≤ 7 ^ 3 := Nat.pow_le_pow_right (by decide) hpl
  have c : (cntRows gs pre).length ≤ 343 := Nat.le_trans a b
  have d : ((cntRows gs pre).length : Int) * (s.2 - s.1 + 1) ≤ 343 * 7 := Int.mul_le_mul (by omega) (by omega) (by omega) (by omega)
  omega
theorem bnds_thin (h : Sys sp gs) {x : List Int} (hx : Sol sp gs x) (hw : ∀ s ∈ sp, s.2 - s.1 ≤ 6) : ∀ s ∈ bnds sp gs, s.1 ≤ s.2 ∧ s.2 - s.1 ≤ 6 := fun s hs => by
  unfold bnds at hs
  obtain ⟨k, hk, rfl⟩ := List.mem_map.mp hs
  have hk := List.mem_range.mp hk
  obtain ⟨_, l2, l3⟩ := least_sol h hx
  obtain ⟨m2, m3⟩ := most_sol h hx
  have a := l2.low k hk
  have b := m2.high k hk
  have c := l3 k
  have d := m3 k
  have e : sp.getD k (0, 0) = sp[k] := by rw [List.getD_eq_getElem?_getD, List.getElem?_eq_getElem hk]; rfl
  have f := hw _ (List.getElem_mem hk)
  have g1 : slo sp k = sp[k].1 := by unfold slo; rw [e]
  have g2 : shi sp k = sp[k].2 := by unfold shi; rw [e]
  simp only
  omega
end
end K64

set_option Elab.async false
set_option linter.all false
set_option maxRecDepth 100000
set_option maxHeartbeats 4000000
/-! K64 ev: what the program's functions answer. -/
namespace K64
open PySem PySem.Spec PyProof.Rows L2 Mini
def sD (s : Span) : PyData := .tuple [.int s.1, .int s.2]
def gD (g : Gap) : PyData := .tuple [.int ((g.1 : Nat) : Int), .int ((g.2.1 : Nat) : Int), .int g.2.2]
def SD (sp : List Span) : PyData := .tuple (sp.map sD)
def GD (gs : List Gap) : PyData := .tuple (gs.map gD)
def rowD (x : List Int) : PyData := .tuple (x.map .int)
def yD (y : List Int) : PyData := .list (y.map .int)
def oD : Option Nat → PyData
  | none => .none
  | some k => .int ((k : Nat) : Int)
def tD (t : Tl) : PyData := .list (t.map oD)
theorem lcGo_nil (p : MG) (t : MT) (e : ME) (S : SEnv) (w : Drw) : lcGo p t e S [] w = some ([], w) := rfl
theorem ev_is_integer (i : Int) : G_is_integer [.int i] = some (.bool true) := rfl
theorem ev_is_year {i : Int} (h1 : -5000 ≤ i) (h2 : i ≤ 5000) : G_is_year [.int i] = some (.bool true) := by
  simp only [G_is_year, m_is_year, runM, runS, env0, flD, cal, sSeq, sIf, sRet, sRetN, sDrop, sAsg, sOwn, sFrz, frz, sPar, sPar3, sParF, sParF3, mkSl, sNx, sNo, sBk, sCt, sApp, sExt, sSetIx, sAug, sFor, sWhile, m1, m2, mC, mVar, mLook, mAnd, mOr, mNot, mIte, mB, mV, mTru, dTru, mAndV, mOrV, mNotV, mNil, mCons, mTup, mLst, mF, mFS, mItems, mRng, mRng1, mRng2, mRng3, dRng1, dRng2, dRng3, mEnum, mZip, mEnumA, mZipA, mCut, mNoP, mPt, mRev, mNeg, dNeg, dRev, dCut, mLc, mYes, pName, pTup, pTupL, pNil, pCons, wipeS, dAdd, dSub, dMul, dDiv, dMod, dMulI, dAddI, dCmp, dIsN, dNotN, isNone, dLenX, dLen, seqOf, dAbs, dMax2, dMin2, dInt, dTuple, dList, dCatL, dRepL, mSt, mStLen, mStCell, sSt, sSt3, drwGet, drwSet, mCh2, mCh3, mCount, dCount, Option.bind_some, Option.map_some, Option.bind_none, Option.map_none, List.getElem?_cons_zero, List.getElem?_cons_succ, List.set_cons_zero, List.set_cons_succ, List.map_cons, List.map_nil, List.cons_append, List.nil_append, List.replicate_succ, List.replicate_zero, List.length_cons, List.length_nil, if_true, if_false, reduceIte, Bool.false_eq_true, Bool.not_true, Bool.not_false, decide_true, decide_false, ev_is_integer, h1, h2]
theorem dAll_true {α : Type} {f : α → PyData} (xs : List α) (h : ∀ x ∈ xs, f x = .bool true) : dAll [.list (xs.map f)] = some (.bool true) := by
  have e : xs.map f = (xs.map fun _ => true).map .bool := by
    rw [List.map_map]; exact List.map_congr_left h
  rw [e]
  show (bolsOf _).map _ = _
  rw [bolsOf_map]
  simp
theorem isi_tup (xs : List PyData) : dIsi "tuple" [.tuple xs] = some (.bool true) := rfl
theorem ev_is_gap {gs : List Gap} {sp : List Span} (h : Sys sp gs) {g : Gap} (hg : g ∈ gs) : G_is_gap [gD g, SD sp] = some (.bool true) := by
  obtain ⟨a, b, m⟩ := g
  obtain ⟨h1, h2, h3⟩ := h.gap _ hg
  obtain ⟨h4, h5⟩ := h.gsz _ hg
  simp only at h1 h2 h3 h4 h5
  have l3 : (3 : Nat) ≤ LB := by decide
  have a1 : dAll [.list [.bool true, .bool true, .bool true]] = some (.bool true) := rfl
  have n3 : dNe (.int ((3 : Nat) : Int)) (.int 3) = some (.bool false) := dNe_refl rfl
  have n4 : dNe (.int (a : Int)) (.int (b : Int)) = some (.bool true) := by rw [dNe_int]; congr 2; simp; omega
  have yr := ev_is_year (i := m) (by omega) (by omega)
  have c1 : (0 : Int) ≤ a := by omega
  have c2 : (0 : Int) ≤ b := by omega
  have c3 : (a : Int) < sp.length := by omega
  have c4 : (b : Int) < sp.length := by omega
  simp only [G_is_gap, m_is_gap, gD, SD, runM, runS, env0, flD, cal, sSeq, sIf, sRet, sRetN, sDrop, sAsg, sOwn, sFrz, frz, sPar, sPar3, sParF, sParF3, mkSl, sNx, sNo, sBk, sCt, sApp, sExt, sSetIx, sAug, sFor, sWhile, m1, m2, mC, mVar, mLook, mAnd, mOr, mNot, mIte, mB, mV, mTru, dTru, mAndV, mOrV, mNotV, mNil, mCons, mTup, mLst, mF, mFS, mItems, mRng, mRng1, mRng2, mRng3, dRng1, dRng2, dRng3, mEnum, mZip, mEnumA, mZipA, mCut, mNoP, mPt, mRev, mNeg, dNeg, dRev, dCut, mLc, mYes, pName, pTup, pTupL, pNil, pCons, wipeS, dAdd, dSub, dMul, dDiv, dMod, dMulI, dAddI, dCmp, dIsN, dNotN, isNone, dLenX, dLen, seqOf, dAbs, dMax2, dMin2, dInt, dTuple, dList, dCatL, dRepL, mSt, mStLen, mStCell, sSt, sSt3, drwGet, drwSet, mCh2, mCh3, mCount, dCount, Option.bind_some, Option.map_some, Option.bind_none, Option.map_none, List.getElem?_cons_zero, List.getElem?_cons_succ, List.set_cons_zero, List.set_cons_succ, List.map_cons, List.map_nil, List.cons_append, List.nil_append, List.replicate_succ, List.replicate_zero, List.length_cons, List.length_nil, if_true, if_false, reduceIte, Bool.false_eq_true, Bool.not_true, Bool.not_false, decide_true, decide_false, mIsi, isi_tup, lcGo_cons, lcGo_nil, ev_is_integer, Nat.zero_add, Nat.reduceAdd, if_pos l3, a1, n3, n4, yr, List.length_map]
  simp [c1, c2, c3, c4]
theorem ev_check_layers {gs : List Gap} {sp : List Span} (h : Sys sp gs) : G_check_layers [SD sp, GD gs] = some .none := by
  have c1 : ¬ (sp.length : Int) > 30 := by have := h.few; omega
  have c2 : ¬ (gs.length : Int) > 60 := by have := h.gfew; omega
  have c2' : ¬ (60 : Int) < gs.length := by have := h.gfew; omega
  have c1' : ¬ (30 : Int) < sp.length := by have := h.few; omega
  have l2 : (2 : Nat) ≤ LB := by decide
  have lg : (gs.map fun g => (PyData.bool true)).length ≤ LB := by rw [List.length_map]; have := h.gfew; show _ ≤ 1000000; omega
  have lg' : gs.length ≤ LB := by have := h.gfew; show _ ≤ 1000000; omega
  have n2 : dNe (.int ((2 : Nat) : Int)) (.int 2) = some (.bool false) := dNe_refl rfl
  have a1 : dAll [.list [.bool true, .bool true]] = some (.bool true) := rfl
  have body := fun (x0 x1 : Sl) => for_fold (α := Span) (τ := Sl) (p := pName 2) (g := sD) (w := w0) (f := fun _ s => .val (sD s)) (E := fun x => [.val (SD sp), .val (GD gs), x, .no])
    (b := (sSeq (sIf (mOr (mNot (mTru (mIsi "tuple" (mLook 2)))) (mOr (mB (m2 dNe (mF dLenX (mCons (mLook 2) mNil)) (mC (.int 2)))) (mNot (mTru (mF dAll (mCons (mLc (mItems (mLook 2)) (pName 3) mYes (mF (cal 1 G_is_year) (mCons (mVar 3) mNil)) [3]) mNil))))))
    sNo sNx)
    (sIf (mB (m2 dGt (m2 dIx (mLook 2) (mC (.int 0))) (m2 dIx (mLook 2) (mC (.int 1)))))
    sNo sNx))) (fun _ xs => ∀ x ∈ xs, x ∈ sp) (fun s x xs hx => ⟨⟨_, rfl, by
      obtain ⟨q1, q2, q3⟩ := h.span x (hx x List.mem_cons_self)
      have y1 := ev_is_year (i := x.1) (by omega) (by omega)
      have y2 := ev_is_year (i := x.2) (by omega) (by omega)
      have y3 : ¬ x.1 > x.2 := by omega
      have y4 : ¬ x.2 < x.1 := by omega
      simp only [sD, runM, runS, env0, flD, cal, sSeq, sIf, sRet, sRetN, sDrop, sAsg, sOwn, sFrz, frz, sPar, sPar3, sParF, sParF3, mkSl, sNx, sNo, sBk, sCt, sApp, sExt, sSetIx, sAug, sFor, sWhile, m1, m2, mC, mVar, mLook, mAnd, mOr, mNot, mIte, mB, mV, mTru, dTru, mAndV, mOrV, mNotV, mNil, mCons, mTup, mLst, mF, mFS, mItems, mRng, mRng1, mRng2, mRng3, dRng1, dRng2, dRng3, mEnum, mZip, mEnumA, mZipA, mCut, mNoP, mPt, mRev, mNeg, dNeg, dRev, dCut, mLc, mYes, pName, pTup, pTupL, pNil, pCons, wipeS, dAdd, dSub, dMul, dDiv, dMod, dMulI, dAddI, dCmp, dIsN, dNotN, isNone, dLenX, dLen, seqOf, dAbs, dMax2, dMin2, dInt, dTuple, dList, dCatL, dRepL, mSt, mStLen, mStCell, sSt, sSt3, drwGet, drwSet, mCh2, mCh3, mCount, dCount, Option.bind_some, Option.map_some, Option.bind_none, Option.map_none, List.getElem?_cons_zero, List.getElem?_cons_succ, List.set_cons_zero, List.set_cons_succ, List.map_cons, List.map_nil, List.cons_append, List.nil_append, List.replicate_succ, List.replicate_zero, List.length_cons, List.length_nil, if_true, if_false, reduceIte, Bool.false_eq_true, Bool.not_true, Bool.not_false, decide_true, decide_false, mIsi, isi_tup, lcGo_cons, lcGo_nil, Nat.zero_add, Nat.reduceAdd, if_pos l2, n2, y1, y2, a1, ix_tup2_0, ix_tup2_1]
      simp [y3, y4]⟩, fun y hy => hx y (List.mem_cons_of_mem _ hy)⟩) sp .no fun x hx => hx
  obtain ⟨lp, -⟩ := body .no .no
  have lc := fun x => lc_as (α := Gap) (p := pName 3) (e := mF (cal 2 G_is_gap) (mCons (mVar 3) (mCons (mVar 0) mNil))) (S := [.val (SD sp), .val (GD gs), x, .no]) (w := w0) (g := gD) (f := fun _ => .bool true) (ks := gs) (fun g hg => ⟨_, rfl, by
    have := ev_is_gap h hg
    simp only [runM, runS, env0, flD, cal, sSeq, sIf, sRet, sRetN, sDrop, sAsg, sOwn, sFrz, frz, sPar, sPar3, sParF, sParF3, mkSl, sNx, sNo, sBk, sCt, sApp, sExt, sSetIx, sAug, sFor, sWhile, m1, m2, mC, mVar, mLook, mAnd, mOr, mNot, mIte, mB, mV, mTru, dTru, mAndV, mOrV, mNotV, mNil, mCons, mTup, mLst, mF, mFS, mItems, mRng, mRng1, mRng2, mRng3, dRng1, dRng2, dRng3, mEnum, mZip, mEnumA, mZipA, mCut, mNoP, mPt, mRev, mNeg, dNeg, dRev, dCut, mLc, mYes, pName, pTup, pTupL, pNil, pCons, wipeS, dAdd, dSub, dMul, dDiv, dMod, dMulI, dAddI, dCmp, dIsN, dNotN, isNone, dLenX, dLen, seqOf, dAbs, dMax2, dMin2, dInt, dTuple, dList, dCatL, dRepL, mSt, mStLen, mStCell, sSt, sSt3, drwGet, drwSet, mCh2, mCh3, mCount, dCount, Option.bind_some, Option.map_some, Option.bind_none, Option.map_none, List.getElem?_cons_zero, List.getElem?_cons_succ, List.set_cons_zero, List.set_cons_succ, List.map_cons, List.map_nil, List.cons_append, List.nil_append, List.replicate_succ, List.replicate_zero, List.length_cons, List.length_nil, if_true, if_false, reduceIte, Bool.false_eq_true, Bool.not_true, Bool.not_false, decide_true, decide_false, this, Nat.zero_add, Nat.reduceAdd]⟩)
  have da := dAll_true (f := fun _ : Gap => PyData.bool true) gs fun _ _ => rfl
  unfold G_check_layers
  refine runM_nx [.val (SD sp), .val (GD gs), .no, .no] rfl ?_
  unfold m_check_layers
  rw [seq_nx (S1 := [.val (SD sp), .val (GD gs), .no, .no]) (w1 := w0) (if_no (w1 := w0) (by
    simp only [SD, runM, runS, env0, flD, cal, sSeq, sIf, sRet, sRetN, sDrop, sAsg, sOwn, sFrz, frz, sPar, sPar3, sParF, sParF3, mkSl, sNx, sNo, sBk, sCt, sApp, sExt, sSetIx, sAug, sFor, sWhile, m1, m2, mC, mVar, mLook, mAnd, mOr, mNot, mIte, mB, mV, mTru, dTru, mAndV, mOrV, mNotV, mNil, mCons, mTup, mLst, mF, mFS, mItems, mRng, mRng1, mRng2, mRng3, dRng1, dRng2, dRng3, mEnum, mZip, mEnumA, mZipA, mCut, mNoP, mPt, mRev, mNeg, dNeg, dRev, dCut, mLc, mYes, pName, pTup, pTupL, pNil, pCons, wipeS, dAdd, dSub, dMul, dDiv, dMod, dMulI, dAddI, dCmp, dIsN, dNotN, isNone, dLenX, dLen, seqOf, dAbs, dMax2, dMin2, dInt, dTuple, dList, dCatL, dRepL, mSt, mStLen, mStCell, sSt, sSt3, drwGet, drwSet, mCh2, mCh3, mCount, dCount, Option.bind_some, Option.map_some, Option.bind_none, Option.map_none, List.getElem?_cons_zero, List.getElem?_cons_succ, List.set_cons_zero, List.set_cons_succ, List.map_cons, List.map_nil, List.cons_append, List.nil_append, List.replicate_succ, List.replicate_zero, List.length_cons, List.length_nil, if_true, if_false, reduceIte, Bool.false_eq_true, Bool.not_true, Bool.not_false, decide_true, decide_false, mIsi, isi_tup, List.length_map]
    simp [c1, c1']))]
  rw [seq_nx (sFor_of rfl lp)]
  rw [if_no (w1 := w0) (by
    have lc' := lc (sp.foldl (fun x s => Sl.val (sD s)) Sl.no)
    simp only [SD, GD] at lc'
    simp only [SD, GD, runM, runS, env0, flD, cal, sSeq, sIf, sRet, sRetN, sDrop, sAsg, sOwn, sFrz, frz, sPar, sPar3, sParF, sParF3, mkSl, sNx, sNo, sBk, sCt, sApp, sExt, sSetIx, sAug, sFor, sWhile, m1, m2, mC, mVar, mLook, mAnd, mOr, mNot, mIte, mB, mV, mTru, dTru, mAndV, mOrV, mNotV, mNil, mCons, mTup, mLst, mF, mFS, mItems, mRng, mRng1, mRng2, mRng3, dRng1, dRng2, dRng3, mEnum, mZip, mEnumA, mZipA, mCut, mNoP, mPt, mRev, mNeg, dNeg, dRev, dCut, mLc, mYes, pName, pTup, pTupL, pNil, pCons, wipeS, dAdd, dSub, dMul, dDiv, dMod, dMulI, dAddI, dCmp, dIsN, dNotN, isNone, dLenX, dLen, seqOf, dAbs, dMax2, dMin2, dInt, dTuple, dList, dCatL, dRepL, mSt, mStLen, mStCell, sSt, sSt3, drwGet, drwSet, mCh2, mCh3, mCount, dCount, Option.bind_some, Option.map_some, Option.bind_none, Option.map_none, List.getElem?_cons_zero, List.getElem?_cons_succ, List.set_cons_zero, List.set_cons_succ, List.map_cons, List.map_nil, List.cons_append, List.nil_append, List.replicate_succ, List.replicate_zero, List.length_cons, List.length_nil, if_true, if_false, reduceIte, Bool.false_eq_true, Bool.not_true, Bool.not_false, decide_true, decide_false, mIsi, isi_tup, lc', List.length_map, if_pos lg', da]
    simp [c2, c2'])]
  exact ⟨_, _, rfl⟩
end K64

set_option Elab.async false
set_option linter.all false
set_option maxRecDepth 100000
set_option maxHeartbeats 4000000
namespace K64
open PySem PySem.Spec PyProof.Rows L2 Mini
theorem ix_y {y : List Int} {a : Nat} (h : a < y.length) : dIx (yD y) (.int ((a : Nat) : Int)) = some (.int (A y a)) := ix_ints h
theorem ix_r {y : List Int} {a : Nat} (h : a < y.length) : dIx (rowD y) (.int ((a : Nat) : Int)) = some (.int (A y a)) := ixT_ints h
theorem ix_t {t : Tl} {a : Nat} (h : a < t.length) : dIx (tD t) (.int ((a : Nat) : Int)) = some (oD (T t a)) := by
  unfold tD T
  rw [ix_nat (by rw [List.length_map]; exact h), List.getElem_map, List.getD_eq_getElem?_getD, List.getElem?_eq_getElem h]
  rfl
theorem ix_g {gs : List Gap} {k : Nat} (h : k < gs.length) : dIx (GD gs) (.int ((k : Nat) : Int)) = some (gD (one gs k, oth gs k, wt gs k)) := by
  unfold GD one oth wt
  rw [ixT_nat (by rw [List.length_map]; exact h), List.getElem_map, List.getD_eq_getElem?_getD, List.getElem?_eq_getElem h]
  rfl
theorem ix_s {sp : List Span} {k : Nat} (h : k < sp.length) : dIx (SD sp) (.int ((k : Nat) : Int)) = some (sD (slo sp k, shi sp k)) := by
  unfold SD slo shi
  rw [ixT_nat (by rw [List.length_map]; exact h), List.getElem_map, List.getD_eq_getElem?_getD, List.getElem?_eq_getElem h]
  rfl
def Eg (s : St) (gs : List Gap) (r : Nat) (turn num a b m : Sl) : SEnv := [.own (yD s.1), .val (GD gs), .val (.int ((r : Nat) : Int)), .own (tD s.2), turn, num, a, b, m]
theorem gb_step {s : St} {G : List Gap} {r k : Nat} {turn : Sl} {g : Gap} {n : Nat} (h1 : s.1.length = n) (h2 : s.2.length = n) (ok : GapOk n g) : (sIf (mB (m2 dGt (m2 dAdd (m2 dIx (mLook 0) (mLook 6)) (mLook 8)) (m2 dIx (mLook 0) (mLook 7)))) (sSeq (sSetIx 0 (mLook 7) (m2 dAdd (m2 dIx (mLook 0) (mLook 6)) (mLook 8))) (sSetIx 3 (mLook 7) (mVar 5))) sNx) (Eg s G r turn (.val (.int ((k : Nat) : Int))) (.val (.int ((g.1 : Nat) : Int))) (.val (.int ((g.2.1 : Nat) : Int))) (.val (.int g.2.2))) w0 =
    some (.nx, Eg (upd1 k g s) G r turn (.val (.int ((k : Nat) : Int))) (.val (.int ((g.1 : Nat) : Int))) (.val (.int ((g.2.1 : Nat) : Int))) (.val (.int g.2.2)), w0) := by
  obtain ⟨a, b, m⟩ := g
  obtain ⟨ha, hb, hab⟩ := ok
  simp only at ha hb hab ⊢
  have e1 := ix_y (y := s.1) (a := a) (by omega)
  have e2 := ix_y (y := s.1) (a := b) (by omega)
  have x1 : ixN (s.1.map PyData.int).length (b : Int) = some b := ixN_nat (by rw [List.length_map]; omega)
  have x2 : ixN (s.2.map oD).length (b : Int) = some b := ixN_nat (by rw [List.length_map]; omega)
  unfold upd1
  simp only
  split
  · rename_i hlt
    have c : A s.1 a + m > A s.1 b := hlt
    rw [if_yes (w1 := w0) (by simp only [Eg, runM, runS, env0, flD, cal, sSeq, sIf, sRet, sRetN, sDrop, sAsg, sOwn, sFrz, frz, sPar, sPar3, sParF, sParF3, mkSl, sNx, sNo, sBk, sCt, sApp, sExt, sSetIx, sAug, sFor, sWhile, m1, m2, mC, mVar, mLook, mAnd, mOr, mNot, mIte, mB, mV, mTru, dTru, mAndV, mOrV, mNotV, mNil, mCons, mTup, mLst, mF, mFS, mItems, mRng, mRng1, mRng2, mRng3, dRng1, dRng2, dRng3, mEnum, mZip, mEnumA, mZipA, mCut, mNoP, mPt, mRev, mNeg, dNeg, dRev, dCut, mLc, mYes, pName, pTup, pTupL, pNil, pCons, wipeS, dAdd, dSub, dMul, dDiv, dMod, dMulI, dAddI, dCmp, dIsN, dNotN, isNone, dLenX, dLen, seqOf, dAbs, dMax2, dMin2, dInt, dTuple, dList, dCatL, dRepL, mSt, mStLen, mStCell, sSt, sSt3, drwGet, drwSet, mCh2, mCh3, mCount, dCount, Option.bind_some, Option.map_some, Option.bind_none, Option.map_none, List.getElem?_cons_zero, List.getElem?_cons_succ, List.set_cons_zero, List.set_cons_succ, List.map_cons, List.map_nil, List.cons_append, List.nil_append, List.replicate_succ, List.replicate_zero, List.length_cons, List.length_nil, if_true, if_false, reduceIte, Bool.false_eq_true, Bool.not_true, Bool.not_false, decide_true, decide_false, e1, e2, c])]
    simp only [yD] at e1
    simp only [Eg, runM, runS, env0, flD, cal, sSeq, sIf, sRet, sRetN, sDrop, sAsg, sOwn, sFrz, frz, sPar, sPar3, sParF, sParF3, mkSl, sNx, sNo, sBk, sCt, sApp, sExt, sSetIx, sAug, sFor, sWhile, m1, m2, mC, mVar, mLook, mAnd, mOr, mNot, mIte, mB, mV, mTru, dTru, mAndV, mOrV, mNotV, mNil, mCons, mTup, mLst, mF, mFS, mItems, mRng, mRng1, mRng2, mRng3, dRng1, dRng2, dRng3, mEnum, mZip, mEnumA, mZipA, mCut, mNoP, mPt, mRev, mNeg, dNeg, dRev, dCut, mLc, mYes, pName, pTup, pTupL, pNil, pCons, wipeS, dAdd, dSub, dMul, dDiv, dMod, dMulI, dAddI, dCmp, dIsN, dNotN, isNone, dLenX, dLen, seqOf, dAbs, dMax2, dMin2, dInt, dTuple, dList, dCatL, dRepL, mSt, mStLen, mStCell, sSt, sSt3, drwGet, drwSet, mCh2, mCh3, mCount, dCount, Option.bind_some, Option.map_some, Option.bind_none, Option.map_none, List.getElem?_cons_zero, List.getElem?_cons_succ, List.set_cons_zero, List.set_cons_succ, List.map_cons, List.map_nil, List.cons_append, List.nil_append, List.replicate_succ, List.replicate_zero, List.length_cons, List.length_nil, if_true, if_false, reduceIte, Bool.false_eq_true, Bool.not_true, Bool.not_false, decide_true, decide_false, e1, yD, tD, x1, x2]
    rw [List.map_set, List.map_set]
    rfl
  · rename_i hlt
    have c : ¬ A s.1 a + m > A s.1 b := hlt
    rw [if_no (w1 := w0) (by simp only [Eg, runM, runS, env0, flD, cal, sSeq, sIf, sRet, sRetN, sDrop, sAsg, sOwn, sFrz, frz, sPar, sPar3, sParF, sParF3, mkSl, sNx, sNo, sBk, sCt, sApp, sExt, sSetIx, sAug, sFor, sWhile, m1, m2, mC, mVar, mLook, mAnd, mOr, mNot, mIte, mB, mV, mTru, dTru, mAndV, mOrV, mNotV, mNil, mCons, mTup, mLst, mF, mFS, mItems, mRng, mRng1, mRng2, mRng3, dRng1, dRng2, dRng3, mEnum, mZip, mEnumA, mZipA, mCut, mNoP, mPt, mRev, mNeg, dNeg, dRev, dCut, mLc, mYes, pName, pTup, pTupL, pNil, pCons, wipeS, dAdd, dSub, dMul, dDiv, dMod, dMulI, dAddI, dCmp, dIsN, dNotN, isNone, dLenX, dLen, seqOf, dAbs, dMax2, dMin2, dInt, dTuple, dList, dCatL, dRepL, mSt, mStLen, mStCell, sSt, sSt3, drwGet, drwSet, mCh2, mCh3, mCount, dCount, Option.bind_some, Option.map_some, Option.bind_none, Option.map_none, List.getElem?_cons_zero, List.getElem?_cons_succ, List.set_cons_zero, List.set_cons_succ, List.map_cons, List.map_nil, List.cons_append, List.nil_append, List.replicate_succ, List.replicate_zero, List.length_cons, List.length_nil, if_true, if_false, reduceIte, Bool.false_eq_true, Bool.not_true, Bool.not_false, decide_true, decide_false, e1, e2, c])]
theorem gb_round {G : List Gap} {r n : Nat} {turn : Sl} : ∀ (gs : List Gap) (k : Nat) (s : St) (x5 x6 x7 x8 : Sl), s.1.length = n → s.2.length = n → (∀ g ∈ gs, GapOk n g) → ∃ y5 y6 y7 y8,
    forGo (pTup (pCons (pName 5) (pCons (pTup (pCons (pName 6) (pCons (pName 7) (pCons (pName 8) pNil)))) pNil))) (sIf (mB (m2 dGt (m2 dAdd (m2 dIx (mLook 0) (mLook 6)) (mLook 8)) (m2 dIx (mLook 0) (mLook 7)))) (sSeq (sSetIx 0 (mLook 7) (m2 dAdd (m2 dIx (mLook 0) (mLook 6)) (mLook 8))) (sSetIx 3 (mLook 7) (mVar 5))) sNx) (enumD k (gs.map gD)) (Eg s G r turn x5 x6 x7 x8) w0 = some (.nx, Eg (roundK k gs s) G r turn y5 y6 y7 y8, w0)
  | [], k, s, x5, x6, x7, x8, _, _, _ => ⟨x5, x6, x7, x8, rfl⟩
  | g :: gs, k, s, x5, x6, x7, x8, h1, h2, ok => by
    have st := gb_step (G := G) (r := r) (k := k) (turn := turn) h1 h2 (ok g List.mem_cons_self)
    have l1 : (upd1 k g s).1.length = n := by rw [upd_len]; exact h1
    have l2 : (upd1 k g s).2.length = n := by unfold upd1; split <;> simp [h2]
    obtain ⟨y5, y6, y7, y8, e⟩ := gb_round (G := G) (r := r) (turn := turn) gs (k + 1) (upd1 k g s) (.val (.int ((k : Nat) : Int))) (.val (.int ((g.1 : Nat) : Int))) (.val (.int ((g.2.1 : Nat) : Int))) (.val (.int g.2.2)) l1 l2 fun x hx => ok x (List.mem_cons_of_mem _ hx)
    refine ⟨y5, y6, y7, y8, ?_⟩
    rw [List.map_cons, enumD, forGo_cons]
    show ((sIf (mB (m2 dGt (m2 dAdd (m2 dIx (mLook 0) (mLook 6)) (mLook 8)) (m2 dIx (mLook 0) (mLook 7)))) (sSeq (sSetIx 0 (mLook 7) (m2 dAdd (m2 dIx (mLook 0) (mLook 6)) (mLook 8))) (sSetIx 3 (mLook 7) (mVar 5))) sNx) (Eg s G r turn (.val (.int ((k : Nat) : Int))) (.val (.int ((g.1 : Nat) : Int))) (.val (.int ((g.2.1 : Nat) : Int))) (.val (.int g.2.2))) w0).bind _ = _
    rw [st]
    exact e
theorem roundK_len2 : ∀ (gs : List Gap) (k : Nat) (s : St), (roundK k gs s).2.length = s.2.length
  | [], _, _ => rfl
  | g :: gs, k, s => by
    rw [roundK, roundK_len2 gs]
    unfold upd1; split <;> simp
theorem gb_rounds {gs : List Gap} {r n : Nat} (ok : ∀ g ∈ gs, GapOk n g) : ∀ (q : Nat) (lo : Int) (s : St) (x4 x5 x6 x7 x8 : Sl), s.1.length = n → s.2.length = n → ∃ y4 y5 y6 y7 y8,
    forGo (pName 4) (sFor (mEnumA (mVar 1)) (pTup (pCons (pName 5) (pCons (pTup (pCons (pName 6) (pCons (pName 7) (pCons (pName 8) pNil)))) pNil))) (sIf (mB (m2 dGt (m2 dAdd (m2 dIx (mLook 0) (mLook 6)) (mLook 8)) (m2 dIx (mLook 0) (mLook 7)))) (sSeq (sSetIx 0 (mLook 7) (m2 dAdd (m2 dIx (mLook 0) (mLook 6)) (mLook 8))) (sSetIx 3 (mLook 7) (mVar 5))) sNx)) (rngD lo 1 q) (Eg s gs r x4 x5 x6 x7 x8) w0 = some (.nx, Eg (rounds gs q s) gs r y4 y5 y6 y7 y8, w0)
  | 0, lo, s, x4, x5, x6, x7, x8, _, _ => ⟨x4, x5, x6, x7, x8, rfl⟩
  | q + 1, lo, s, x4, x5, x6, x7, x8, h1, h2 => by
    obtain ⟨z5, z6, z7, z8, e1⟩ := gb_round (G := gs) (r := r) (turn := .val (.int lo)) gs 0 s x5 x6 x7 x8 h1 h2 ok
    obtain ⟨y4, y5, y6, y7, y8, e2⟩ := gb_rounds (r := r) ok q (lo + 1) (roundK 0 gs s) (.val (.int lo)) z5 z6 z7 z8 (by rw [roundK_len]; exact h1) (by rw [roundK_len2]; exact h2)
    refine ⟨y4, y5, y6, y7, y8, ?_⟩
    rw [rngD_succ, forGo_cons]
    rw [show pName 4 (.int lo) (Eg s gs r x4 x5 x6 x7 x8) = some (Eg s gs r (.val (.int lo)) x5 x6 x7 x8) from rfl, Option.bind_some]
    rw [sFor_of (show mEnumA (mVar 1) (Eg s gs r (.val (.int lo)) x5 x6 x7 x8) w0 = some (enumD 0 (gs.map gD), w0) from by simp only [Eg, runM, runS, env0, flD, cal, sSeq, sIf, sRet, sRetN, sDrop, sAsg, sOwn, sFrz, frz, sPar, sPar3, sParF, sParF3, mkSl, sNx, sNo, sBk, sCt, sApp, sExt, sSetIx, sAug, sFor, sWhile, m1, m2, mC, mVar, mLook, mAnd, mOr, mNot, mIte, mB, mV, mTru, dTru, mAndV, mOrV, mNotV, mNil, mCons, mTup, mLst, mF, mFS, mItems, mRng, mRng1, mRng2, mRng3, dRng1, dRng2, dRng3, mEnum, mZip, mEnumA, mZipA, mCut, mNoP, mPt, mRev, mNeg, dNeg, dRev, dCut, mLc, mYes, pName, pTup, pTupL, pNil, pCons, wipeS, dAdd, dSub, dMul, dDiv, dMod, dMulI, dAddI, dCmp, dIsN, dNotN, isNone, dLenX, dLen, seqOf, dAbs, dMax2, dMin2, dInt, dTuple, dList, dCatL, dRepL, mSt, mStLen, mStCell, sSt, sSt3, drwGet, drwSet, mCh2, mCh3, mCount, dCount, Option.bind_some, Option.map_some, Option.bind_none, Option.map_none, List.getElem?_cons_zero, List.getElem?_cons_succ, List.set_cons_zero, List.set_cons_succ, List.map_cons, List.map_nil, List.cons_append, List.nil_append, List.replicate_succ, List.replicate_zero, List.length_cons, List.length_nil, if_true, if_false, reduceIte, Bool.false_eq_true, Bool.not_true, Bool.not_false, decide_true, decide_false, GD]) e1]
    exact e2
theorem ev_grown {gs : List Gap} {lo : List Int} {r : Nat} (hl : lo.length ≤ 7) (hr : r ≤ 100) (ok : ∀ g ∈ gs, GapOk lo.length g) :
    G_grown [yD lo, GD gs, .int ((r : Nat) : Int)] = some (.tuple [yD (rounds gs r (lo, List.replicate lo.length none)).1, tD (rounds gs r (lo, List.replicate lo.length none)).2]) := by
  obtain ⟨y4, y5, y6, y7, y8, e⟩ := gb_rounds (r := r) ok r 0 (lo, List.replicate lo.length none) .no .no .no .no .no rfl (by simp)
  unfold G_grown
  refine runM_rt [.val (yD lo), .val (GD gs), .val (.int ((r : Nat) : Int)), .no, .no, .no, .no, .no, .no] rfl ?_
  unfold m_grown
  rw [seq_nx (S1 := [.own (yD lo), .val (GD gs), .val (.int ((r : Nat) : Int)), .no, .no, .no, .no, .no, .no]) (w1 := w0) (by simp only [runM, runS, env0, flD, cal, sSeq, sIf, sRet, sRetN, sDrop, sAsg, sOwn, sFrz, frz, sPar, sPar3, sParF, sParF3, mkSl, sNx, sNo, sBk, sCt, sApp, sExt, sSetIx, sAug, sFor, sWhile, m1, m2, mC, mVar, mLook, mAnd, mOr, mNot, mIte, mB, mV, mTru, dTru, mAndV, mOrV, mNotV, mNil, mCons, mTup, mLst, mF, mFS, mItems, mRng, mRng1, mRng2, mRng3, dRng1, dRng2, dRng3, mEnum, mZip, mEnumA, mZipA, mCut, mNoP, mPt, mRev, mNeg, dNeg, dRev, dCut, mLc, mYes, pName, pTup, pTupL, pNil, pCons, wipeS, dAdd, dSub, dMul, dDiv, dMod, dMulI, dAddI, dCmp, dIsN, dNotN, isNone, dLenX, dLen, seqOf, dAbs, dMax2, dMin2, dInt, dTuple, dList, dCatL, dRepL, mSt, mStLen, mStCell, sSt, sSt3, drwGet, drwSet, mCh2, mCh3, mCount, dCount, Option.bind_some, Option.map_some, Option.bind_none, Option.map_none, List.getElem?_cons_zero, List.getElem?_cons_succ, List.set_cons_zero, List.set_cons_succ, List.map_cons, List.map_nil, List.cons_append, List.nil_append, List.replicate_succ, List.replicate_zero, List.length_cons, List.length_nil, if_true, if_false, reduceIte, Bool.false_eq_true, Bool.not_true, Bool.not_false, decide_true, decide_false, yD])]
  have l1 : (1 : Nat) ≤ LB := by decide
  have c : (0 : Int) ≤ ((lo.map PyData.int).length : Nat) ∧ (((lo.map PyData.int).length : Nat) : Int).natAbs ≤ 1000000 ∧ 1 * (((lo.map PyData.int).length : Nat) : Int).toNat ≤ LB := by
    rw [List.length_map]
    refine ⟨by omega, by omega, ?_⟩
    show _ ≤ 1000000
    omega
  have rp : ((List.replicate (((lo.map PyData.int).length : Nat) : Int).toNat [PyData.none]).flatten) = (List.replicate lo.length none).map oD := by
    rw [List.length_map, Int.toNat_natCast, List.map_replicate]
    generalize lo.length = n
    induction n with
    | zero => rfl
    | succ n ih => rw [List.replicate_succ, List.flatten_cons, ih, List.replicate_succ]; rfl
  rw [seq_nx (S1 := Eg (lo, List.replicate lo.length none) gs r .no .no .no .no .no) (w1 := w0) (by
    simp only [Eg, yD, tD, runM, runS, env0, flD, cal, sSeq, sIf, sRet, sRetN, sDrop, sAsg, sOwn, sFrz, frz, sPar, sPar3, sParF, sParF3, mkSl, sNx, sNo, sBk, sCt, sApp, sExt, sSetIx, sAug, sFor, sWhile, m1, m2, mC, mVar, mLook, mAnd, mOr, mNot, mIte, mB, mV, mTru, dTru, mAndV, mOrV, mNotV, mNil, mCons, mTup, mLst, mF, mFS, mItems, mRng, mRng1, mRng2, mRng3, dRng1, dRng2, dRng3, mEnum, mZip, mEnumA, mZipA, mCut, mNoP, mPt, mRev, mNeg, dNeg, dRev, dCut, mLc, mYes, pName, pTup, pTupL, pNil, pCons, wipeS, dAdd, dSub, dMul, dDiv, dMod, dMulI, dAddI, dCmp, dIsN, dNotN, isNone, dLenX, dLen, seqOf, dAbs, dMax2, dMin2, dInt, dTuple, dList, dCatL, dRepL, mSt, mStLen, mStCell, sSt, sSt3, drwGet, drwSet, mCh2, mCh3, mCount, dCount, Option.bind_some, Option.map_some, Option.bind_none, Option.map_none, List.getElem?_cons_zero, List.getElem?_cons_succ, List.set_cons_zero, List.set_cons_succ, List.map_cons, List.map_nil, List.cons_append, List.nil_append, List.replicate_succ, List.replicate_zero, List.length_cons, List.length_nil, if_true, if_false, reduceIte, Bool.false_eq_true, Bool.not_true, Bool.not_false, decide_true, decide_false, Nat.zero_add, Nat.reduceAdd, if_pos l1, if_pos c, rp])]
  have sm := smallI_of (i := ((r : Nat) : Int)) (by omega) (by omega)
  rw [seq_nx (sFor_of (ds := rngD 0 1 r) (w1 := w0) (by
    simp only [Eg, runM, runS, env0, flD, cal, sSeq, sIf, sRet, sRetN, sDrop, sAsg, sOwn, sFrz, frz, sPar, sPar3, sParF, sParF3, mkSl, sNx, sNo, sBk, sCt, sApp, sExt, sSetIx, sAug, sFor, sWhile, m1, m2, mC, mVar, mLook, mAnd, mOr, mNot, mIte, mB, mV, mTru, dTru, mAndV, mOrV, mNotV, mNil, mCons, mTup, mLst, mF, mFS, mItems, mRng, mRng1, mRng2, mRng3, dRng1, dRng2, dRng3, mEnum, mZip, mEnumA, mZipA, mCut, mNoP, mPt, mRev, mNeg, dNeg, dRev, dCut, mLc, mYes, pName, pTup, pTupL, pNil, pCons, wipeS, dAdd, dSub, dMul, dDiv, dMod, dMulI, dAddI, dCmp, dIsN, dNotN, isNone, dLenX, dLen, seqOf, dAbs, dMax2, dMin2, dInt, dTuple, dList, dCatL, dRepL, mSt, mStLen, mStCell, sSt, sSt3, drwGet, drwSet, mCh2, mCh3, mCount, dCount, Option.bind_some, Option.map_some, Option.bind_none, Option.map_none, List.getElem?_cons_zero, List.getElem?_cons_succ, List.set_cons_zero, List.set_cons_succ, List.map_cons, List.map_nil, List.cons_append, List.nil_append, List.replicate_succ, List.replicate_zero, List.length_cons, List.length_nil, if_true, if_false, reduceIte, Bool.false_eq_true, Bool.not_true, Bool.not_false, decide_true, decide_false, if_pos sm, Int.toNat_natCast]) e)]
  have l2 : (2 : Nat) ≤ LB := by decide
  simp only [Eg, yD, tD, runM, runS, env0, flD, cal, sSeq, sIf, sRet, sRetN, sDrop, sAsg, sOwn, sFrz, frz, sPar, sPar3, sParF, sParF3, mkSl, sNx, sNo, sBk, sCt, sApp, sExt, sSetIx, sAug, sFor, sWhile, m1, m2, mC, mVar, mLook, mAnd, mOr, mNot, mIte, mB, mV, mTru, dTru, mAndV, mOrV, mNotV, mNil, mCons, mTup, mLst, mF, mFS, mItems, mRng, mRng1, mRng2, mRng3, dRng1, dRng2, dRng3, mEnum, mZip, mEnumA, mZipA, mCut, mNoP, mPt, mRev, mNeg, dNeg, dRev, dCut, mLc, mYes, pName, pTup, pTupL, pNil, pCons, wipeS, dAdd, dSub, dMul, dDiv, dMod, dMulI, dAddI, dCmp, dIsN, dNotN, isNone, dLenX, dLen, seqOf, dAbs, dMax2, dMin2, dInt, dTuple, dList, dCatL, dRepL, mSt, mStLen, mStCell, sSt, sSt3, drwGet, drwSet, mCh2, mCh3, mCount, dCount, Option.bind_some, Option.map_some, Option.bind_none, Option.map_none, List.getElem?_cons_zero, List.getElem?_cons_succ, List.set_cons_zero, List.set_cons_succ, List.map_cons, List.map_nil, List.cons_append, List.nil_append, List.replicate_succ, List.replicate_zero, List.length_cons, List.length_nil, if_true, if_false, reduceIte, Bool.false_eq_true, Bool.not_true, Bool.not_false, decide_true, decide_false, Nat.zero_add, Nat.reduceAdd, if_pos l2]
  exact ⟨_, _, rfl⟩
end K64

set_option Elab.async false
set_option linter.all false
set_option maxRecDepth 100000
set_option maxHeartbeats 4000000
namespace K64
open PySem PySem.Spec PyProof.Rows L2 Mini
theorem enumD_map {α : Type} (g : α → PyData) (d : α) : ∀ (xs : List α) (k : Nat), enumD k (xs.map g) = (List.range xs.length).map fun i => .tuple [.int ((k + i : Nat) : Int), g (xs.getD i d)]
  | [], _ => rfl
  | x :: xs, k => by
    rw [List.map_cons, enumD, enumD_map g d xs (k + 1), List.length_cons, List.range_succ_eq_map, List.map_cons, List.map_map]
    congr 1
    refine List.map_congr_left fun i _ => ?_
    simp only [Function.comp, List.getD_cons_succ]
    congr 3
    rw [Nat.succ_eq_add_one, Nat.add_assoc, Nat.add_comm 1 i]
theorem enumD_gaps (gs : List Gap) : enumD 0 (gs.map gD) = (List.range gs.length).map fun k => .tuple [.int ((k : Nat) : Int), gD (one gs k, oth gs k, wt gs k)] := by
  rw [enumD_map gD (0, 0, 0)]
  refine List.map_congr_left fun k _ => ?_
  rw [Nat.zero_add]
  rfl
theorem enumD_spans (sp : List Span) : enumD 0 (sp.map sD) = (List.range sp.length).map fun k => .tuple [.int ((k : Nat) : Int), sD (slo sp k, shi sp k)] := by
  rw [enumD_map sD (0, 0)]
  refine List.map_congr_left fun k _ => ?_
  rw [Nat.zero_add]
  rfl
theorem ix_hd (x : PyData) (xs : List PyData) : dIx (.list (x :: xs)) (.int 0) = some x := ix_nat (xs := x :: xs) (k := 0) (by simp)
theorem ixT_hd (x : PyData) (xs : List PyData) : dIx (.tuple (x :: xs)) (.int 0) = some x := ixT_nat (xs := x :: xs) (k := 0) (by simp)
def raisedL (gs : List Gap) (y : List Int) : List Nat := (List.range gs.length).filter fun k => decide (A y (one gs k) + wt gs k > A y (oth gs k))
def headD : List Nat → PyData
  | [] => .none
  | k :: _ => .int ((k : Nat) : Int)
def nD (ks : List Nat) : List PyData := ks.map fun k => .int ((k : Nat) : Int)
theorem ev_raised_still {gs : List Gap} {y : List Int} (hg : gs.length ≤ 60) (ok : ∀ g ∈ gs, GapOk y.length g) : G_raised_still [yD y, GD gs] = some (headD (raisedL gs y)) := by
  have lc := lc_asF (p := (pTup (pCons (pName 3) (pCons (pTup (pCons (pName 4) (pCons (pName 5) (pCons (pName 6) pNil)))) pNil)))) (t := (mB (m2 dGt (m2 dAdd (m2 dIx (mLook 0) (mLook 4)) (mLook 6)) (m2 dIx (mLook 0) (mLook 5)))))
    (e := mVar 3) (S := [.val (yD y), .val (GD gs), .no, .no, .no, .no, .no]) (w := w0) (g := fun k => .tuple [.int ((k : Nat) : Int), gD (one gs k, oth gs k, wt gs k)]) (f := fun k => .int ((k : Nat) : Int))
    (c := fun k => decide (A y (one gs k) + wt gs k > A y (oth gs k))) (ks := List.range gs.length) fun k hk => by
      have hk := List.mem_range.mp hk
      obtain ⟨h1, h2, h3⟩ := ok _ (mem_gap hk)
      have e1 := ix_y h1
      have e2 := ix_y h2
      simp only at h1 h2 e1 e2
      refine ⟨[.val (yD y), .val (GD gs), .no, .val (.int ((k : Nat) : Int)), .val (.int ((one gs k : Nat) : Int)), .val (.int ((oth gs k : Nat) : Int)), .val (.int (wt gs k))], rfl, ?_, fun _ => rfl⟩
      simp only [runM, runS, env0, flD, cal, sSeq, sIf, sRet, sRetN, sDrop, sAsg, sOwn, sFrz, frz, sPar, sPar3, sParF, sParF3, mkSl, sNx, sNo, sBk, sCt, sApp, sExt, sSetIx, sAug, sFor, sWhile, m1, m2, mC, mVar, mLook, mAnd, mOr, mNot, mIte, mB, mV, mTru, dTru, mAndV, mOrV, mNotV, mNil, mCons, mTup, mLst, mF, mFS, mItems, mRng, mRng1, mRng2, mRng3, dRng1, dRng2, dRng3, mEnum, mZip, mEnumA, mZipA, mCut, mNoP, mPt, mRev, mNeg, dNeg, dRev, dCut, mLc, mYes, pName, pTup, pTupL, pNil, pCons, wipeS, dAdd, dSub, dMul, dDiv, dMod, dMulI, dAddI, dCmp, dIsN, dNotN, isNone, dLenX, dLen, seqOf, dAbs, dMax2, dMin2, dInt, dTuple, dList, dCatL, dRepL, mSt, mStLen, mStCell, sSt, sSt3, drwGet, drwSet, mCh2, mCh3, mCount, dCount, Option.bind_some, Option.map_some, Option.bind_none, Option.map_none, List.getElem?_cons_zero, List.getElem?_cons_succ, List.set_cons_zero, List.set_cons_succ, List.map_cons, List.map_nil, List.cons_append, List.nil_append, List.replicate_succ, List.replicate_zero, List.length_cons, List.length_nil, if_true, if_false, reduceIte, Bool.false_eq_true, Bool.not_true, Bool.not_false, decide_true, decide_false, e1, e2]
  have hl : ((raisedL gs y).map fun k => PyData.int ((k : Nat) : Int)).length ≤ LB := by
    rw [List.length_map]
    have := List.length_filter_le (fun k => decide (A y (one gs k) + wt gs k > A y (oth gs k))) (List.range gs.length)
    rw [List.length_range] at this
    show _ ≤ 1000000
    unfold raisedL
    omega
  unfold G_raised_still
  refine runM_rt [.val (yD y), .val (GD gs), .no, .no, .no, .no, .no] rfl ?_
  unfold m_raised_still
  rw [seq_nx (S1 := [.val (yD y), .val (GD gs), .val (.list (nD (raisedL gs y))), .no, .no, .no, .no]) (w1 := w0) (by
    unfold sAsg
    rw [mLc_of (w1 := w0) (by simp only [runM, runS, env0, flD, cal, sSeq, sIf, sRet, sRetN, sDrop, sAsg, sOwn, sFrz, frz, sPar, sPar3, sParF, sParF3, mkSl, sNx, sNo, sBk, sCt, sApp, sExt, sSetIx, sAug, sFor, sWhile, m1, m2, mC, mVar, mLook, mAnd, mOr, mNot, mIte, mB, mV, mTru, dTru, mAndV, mOrV, mNotV, mNil, mCons, mTup, mLst, mF, mFS, mItems, mRng, mRng1, mRng2, mRng3, dRng1, dRng2, dRng3, mEnum, mZip, mEnumA, mZipA, mCut, mNoP, mPt, mRev, mNeg, dNeg, dRev, dCut, mLc, mYes, pName, pTup, pTupL, pNil, pCons, wipeS, dAdd, dSub, dMul, dDiv, dMod, dMulI, dAddI, dCmp, dIsN, dNotN, isNone, dLenX, dLen, seqOf, dAbs, dMax2, dMin2, dInt, dTuple, dList, dCatL, dRepL, mSt, mStLen, mStCell, sSt, sSt3, drwGet, drwSet, mCh2, mCh3, mCount, dCount, Option.bind_some, Option.map_some, Option.bind_none, Option.map_none, List.getElem?_cons_zero, List.getElem?_cons_succ, List.set_cons_zero, List.set_cons_succ, List.map_cons, List.map_nil, List.cons_append, List.nil_append, List.replicate_succ, List.replicate_zero, List.length_cons, List.length_nil, if_true, if_false, reduceIte, Bool.false_eq_true, Bool.not_true, Bool.not_false, decide_true, decide_false, GD, enumD_gaps]) lc hl]
    rfl)]
  cases e : raisedL gs y with
  | nil => exact ⟨_, _, rfl⟩
  | cons k ks =>
    simp only [nD, List.map_cons, runM, runS, env0, flD, cal, sSeq, sIf, sRet, sRetN, sDrop, sAsg, sOwn, sFrz, frz, sPar, sPar3, sParF, sParF3, mkSl, sNx, sNo, sBk, sCt, sApp, sExt, sSetIx, sAug, sFor, sWhile, m1, m2, mC, mVar, mLook, mAnd, mOr, mNot, mIte, mB, mV, mTru, dTru, mAndV, mOrV, mNotV, mNil, mCons, mTup, mLst, mF, mFS, mItems, mRng, mRng1, mRng2, mRng3, dRng1, dRng2, dRng3, mEnum, mZip, mEnumA, mZipA, mCut, mNoP, mPt, mRev, mNeg, dNeg, dRev, dCut, mLc, mYes, pName, pTup, pTupL, pNil, pCons, wipeS, dAdd, dSub, dMul, dDiv, dMod, dMulI, dAddI, dCmp, dIsN, dNotN, isNone, dLenX, dLen, seqOf, dAbs, dMax2, dMin2, dInt, dTuple, dList, dCatL, dRepL, mSt, mStLen, mStCell, sSt, sSt3, drwGet, drwSet, mCh2, mCh3, mCount, dCount, Option.bind_some, Option.map_some, Option.bind_none, Option.map_none, List.getElem?_cons_zero, List.getElem?_cons_succ, List.set_cons_zero, List.set_cons_succ, List.map_cons, List.map_nil, List.cons_append, List.nil_append, List.replicate_succ, List.replicate_zero, List.length_cons, List.length_nil, if_true, if_false, reduceIte, Bool.false_eq_true, Bool.not_true, Bool.not_false, decide_true, decide_false, List.isEmpty_cons, ix_hd]
    exact ⟨_, _, rfl⟩
theorem raised_iff (gs : List Gap) (y : List Int) : Raised gs y ↔ raisedL gs y ≠ [] := by
  constructor
  · rintro ⟨k, hk, h⟩ e
    have : k ∈ raisedL gs y := List.mem_filter.mpr ⟨List.mem_range.mpr hk, by simpa using h⟩
    rw [e] at this
    cases this
  · intro h
    cases e : raisedL gs y with
    | nil => exact absurd e h
    | cons k ks =>
      have : k ∈ raisedL gs y := by rw [e]; exact List.mem_cons_self
      obtain ⟨h1, h2⟩ := List.mem_filter.mp this
      exact ⟨k, List.mem_range.mp h1, by simpa using h2⟩
theorem raisedL_head {gs : List Gap} {y : List Int} {k : Nat} {ks : List Nat} (e : raisedL gs y = k :: ks) : k < gs.length ∧ A y (oth gs k) < A y (one gs k) + wt gs k := by
  have : k ∈ raisedL gs y := by rw [e]; exact List.mem_cons_self
  obtain ⟨h1, h2⟩ := List.mem_filter.mp this
  exact ⟨List.mem_range.mp h1, by simpa using h2⟩
/-! ### following what was told -/
/-- each told gap is one, and its places are places -/
structure Told (n : Nat) (gs : List Gap) (t : Tl) : Prop where
  len : t.length = n
  gap : ∀ g ∈ gs, GapOk n g
  told : ∀ i k, T t i = some k → k < gs.length
theorem Told.step {n : Nat} {gs : List Gap} {t : Tl} (h : Told n gs t) {i k : Nat} (hi : T t i = some k) : k < gs.length ∧ one gs k < n := ⟨h.told i k hi, (h.gap _ (mem_gap (h.told i k hi))).1⟩
theorem way_loop {n : Nat} {gs : List Gap} {t : Tl} (h : Told n gs t) : ∀ (ks : List Nat) (v u f : Nat) (acc : List Nat), v < n → Chain gs t v ks u → T t u = none → ks.length + 1 ≤ f → acc.length + ks.length ≤ 1000 →
    whGo (mB (m2 dNotN (m2 dIx (mLook 1) (mLook 2)) (mC .none))) (sSeq (sApp 3 (m2 dIx (mLook 1) (mLook 2))) (sAsg (m2 dIx (m2 dIx (mLook 0) (m2 dIx (mLook 1) (mLook 2))) (mC (.int 0))) (pName 2))) f
      [.val (GD gs), .val (tD t), .val (.int ((v : Nat) : Int)), .own (.list (nD acc))] w0 = some (.nx, [.val (GD gs), .val (tD t), .val (.int ((u : Nat) : Int)), .own (.list (nD (acc ++ ks)))], w0)
  | [], v, u, f, acc, hv, hc, hu, hf, hl => by
    cases hc
    obtain ⟨f, rfl⟩ : ∃ g, f = g + 1 := ⟨f - 1, by omega⟩
    have e1 := ix_t (t := t) (a := v) (by rw [h.len]; exact hv)
    rw [hu] at e1
    rw [whGo_succ, List.append_nil]
    simp only [runM, runS, env0, flD, cal, sSeq, sIf, sRet, sRetN, sDrop, sAsg, sOwn, sFrz, frz, sPar, sPar3, sParF, sParF3, mkSl, sNx, sNo, sBk, sCt, sApp, sExt, sSetIx, sAug, sFor, sWhile, m1, m2, mC, mVar, mLook, mAnd, mOr, mNot, mIte, mB, mV, mTru, dTru, mAndV, mOrV, mNotV, mNil, mCons, mTup, mLst, mF, mFS, mItems, mRng, mRng1, mRng2, mRng3, dRng1, dRng2, dRng3, mEnum, mZip, mEnumA, mZipA, mCut, mNoP, mPt, mRev, mNeg, dNeg, dRev, dCut, mLc, mYes, pName, pTup, pTupL, pNil, pCons, wipeS, dAdd, dSub, dMul, dDiv, dMod, dMulI, dAddI, dCmp, dIsN, dNotN, isNone, dLenX, dLen, seqOf, dAbs, dMax2, dMin2, dInt, dTuple, dList, dCatL, dRepL, mSt, mStLen, mStCell, sSt, sSt3, drwGet, drwSet, mCh2, mCh3, mCount, dCount, Option.bind_some, Option.map_some, Option.bind_none, Option.map_none, List.getElem?_cons_zero, List.getElem?_cons_succ, List.set_cons_zero, List.set_cons_succ, List.map_cons, List.map_nil, List.cons_append, List.nil_append, List.replicate_succ, List.replicate_zero, List.length_cons, List.length_nil, if_true, if_false, reduceIte, Bool.false_eq_true, Bool.not_true, Bool.not_false, decide_true, decide_false, e1, oD]
  | k :: ks, v, u, f, acc, hv, hc, hu, hf, hl => by
    obtain ⟨f, rfl⟩ : ∃ g, f = g + 1 := ⟨f - 1, by simp at hf; omega⟩
    have e1 := ix_t (t := t) (a := v) (by rw [h.len]; exact hv)
    rw [hc.1] at e1
    obtain ⟨hk, hn⟩ := h.step hc.1
    have e2 := ix_g hk
    have ih := way_loop h ks (one gs k) u f (acc ++ [k]) hn hc.2 hu (by simp at hf; omega) (by simp at hl ⊢; omega)
    have l1 : (nD acc).length + 1 ≤ LB := by
      unfold nD; rw [List.length_map]; show _ ≤ 1000000; omega
    rw [whGo_succ]
    have ap : nD (acc ++ [k]) = nD acc ++ [.int ((k : Nat) : Int)] := by simp [nD]
    rw [ap, List.append_assoc] at ih
    simp only [runM, runS, env0, flD, cal, sSeq, sIf, sRet, sRetN, sDrop, sAsg, sOwn, sFrz, frz, sPar, sPar3, sParF, sParF3, mkSl, sNx, sNo, sBk, sCt, sApp, sExt, sSetIx, sAug, sFor, sWhile, m1, m2, mC, mVar, mLook, mAnd, mOr, mNot, mIte, mB, mV, mTru, dTru, mAndV, mOrV, mNotV, mNil, mCons, mTup, mLst, mF, mFS, mItems, mRng, mRng1, mRng2, mRng3, dRng1, dRng2, dRng3, mEnum, mZip, mEnumA, mZipA, mCut, mNoP, mPt, mRev, mNeg, dNeg, dRev, dCut, mLc, mYes, pName, pTup, pTupL, pNil, pCons, wipeS, dAdd, dSub, dMul, dDiv, dMod, dMulI, dAddI, dCmp, dIsN, dNotN, isNone, dLenX, dLen, seqOf, dAbs, dMax2, dMin2, dInt, dTuple, dList, dCatL, dRepL, mSt, mStLen, mStCell, sSt, sSt3, drwGet, drwSet, mCh2, mCh3, mCount, dCount, Option.bind_some, Option.map_some, Option.bind_none, Option.map_none, List.getElem?_cons_zero, List.getElem?_cons_succ, List.set_cons_zero, List.set_cons_succ, List.map_cons, List.map_nil, List.cons_append, List.nil_append, List.replicate_succ, List.replicate_zero, List.length_cons, List.length_nil, if_true, if_false, reduceIte, Bool.false_eq_true, Bool.not_true, Bool.not_false, decide_true, decide_false, e1, oD, e2, gD, ix_tup3_0, if_pos l1]
    exact ih
theorem rev_tup (xs : List PyData) : dRev (.list xs) = some (.list xs.reverse) := rfl
theorem ev_way_to {n : Nat} {gs : List Gap} {t : Tl} (h : Told n gs t) {ks : List Nat} {v u : Nat} (hv : v < n) (hc : Chain gs t v ks u) (hu : T t u = none) (hl : ks.length ≤ 100) : G_way_to [GD gs, tD t, .int ((v : Nat) : Int)] = some (.tuple (nD ks.reverse)) := by
  have lp := way_loop h ks v u 100000 [] hv hc hu (by omega) (by simp; omega)
  unfold G_way_to
  refine runM_rt [.val (GD gs), .val (tD t), .val (.int ((v : Nat) : Int)), .no] rfl ?_
  unfold m_way_to
  have l0 : (0 : Nat) ≤ LB := by decide
  rw [seq_nx (S1 := [.val (GD gs), .val (tD t), .val (.int ((v : Nat) : Int)), .own (.list (nD []))]) (w1 := w0) (by simp only [runM, runS, env0, flD, cal, sSeq, sIf, sRet, sRetN, sDrop, sAsg, sOwn, sFrz, frz, sPar, sPar3, sParF, sParF3, mkSl, sNx, sNo, sBk, sCt, sApp, sExt, sSetIx, sAug, sFor, sWhile, m1, m2, mC, mVar, mLook, mAnd, mOr, mNot, mIte, mB, mV, mTru, dTru, mAndV, mOrV, mNotV, mNil, mCons, mTup, mLst, mF, mFS, mItems, mRng, mRng1, mRng2, mRng3, dRng1, dRng2, dRng3, mEnum, mZip, mEnumA, mZipA, mCut, mNoP, mPt, mRev, mNeg, dNeg, dRev, dCut, mLc, mYes, pName, pTup, pTupL, pNil, pCons, wipeS, dAdd, dSub, dMul, dDiv, dMod, dMulI, dAddI, dCmp, dIsN, dNotN, isNone, dLenX, dLen, seqOf, dAbs, dMax2, dMin2, dInt, dTuple, dList, dCatL, dRepL, mSt, mStLen, mStCell, sSt, sSt3, drwGet, drwSet, mCh2, mCh3, mCount, dCount, Option.bind_some, Option.map_some, Option.bind_none, Option.map_none, List.getElem?_cons_zero, List.getElem?_cons_succ, List.set_cons_zero, List.set_cons_succ, List.map_cons, List.map_nil, List.cons_append, List.nil_append, List.replicate_succ, List.replicate_zero, List.length_cons, List.length_nil, if_true, if_false, reduceIte, Bool.false_eq_true, Bool.not_true, Bool.not_false, decide_true, decide_false, if_pos l0, nD])]
  rw [seq_nx (sWhile_of lp)]
  have rv : (nD ks).reverse = nD ks.reverse := by simp [nD]
  simp only [runM, runS, env0, flD, cal, sSeq, sIf, sRet, sRetN, sDrop, sAsg, sOwn, sFrz, frz, sPar, sPar3, sParF, sParF3, mkSl, sNx, sNo, sBk, sCt, sApp, sExt, sSetIx, sAug, sFor, sWhile, m1, m2, mC, mVar, mLook, mAnd, mOr, mNot, mIte, mB, mV, mTru, dTru, mAndV, mOrV, mNotV, mNil, mCons, mTup, mLst, mF, mFS, mItems, mRng, mRng1, mRng2, mRng3, dRng1, dRng2, dRng3, mEnum, mZip, mEnumA, mZipA, mCut, mNoP, mPt, mRev, mNeg, dNeg, dRev, dCut, mLc, mYes, pName, pTup, pTupL, pNil, pCons, wipeS, dAdd, dSub, dMul, dDiv, dMod, dMulI, dAddI, dCmp, dIsN, dNotN, isNone, dLenX, dLen, seqOf, dAbs, dMax2, dMin2, dInt, dTuple, dList, dCatL, dRepL, mSt, mStLen, mStCell, sSt, sSt3, drwGet, drwSet, mCh2, mCh3, mCount, dCount, Option.bind_some, Option.map_some, Option.bind_none, Option.map_none, List.getElem?_cons_zero, List.getElem?_cons_succ, List.set_cons_zero, List.set_cons_succ, List.map_cons, List.map_nil, List.cons_append, List.nil_append, List.replicate_succ, List.replicate_zero, List.length_cons, List.length_nil, if_true, if_false, reduceIte, Bool.false_eq_true, Bool.not_true, Bool.not_false, decide_true, decide_false, rv]
  exact ⟨_, _, rfl⟩
/-! ### the ring -/
theorem back_loop {n : Nat} {gs : List Gap} {t : Tl} {s0 s2 : Sl} (h : Told n gs t) : ∀ (ks : List Nat) (v u : Nat) (lo : Int) (x5 : Sl), v < n → Chain gs t v ks u → ∃ y5,
    forGo (pName 5) (sSeq (sIf (mB (m2 dIsN (m2 dIx (mLook 3) (mLook 4)) (mC .none))) sBk sNx) (sAsg (m2 dIx (m2 dIx (mLook 1) (m2 dIx (mLook 3) (mLook 4))) (mC (.int 0))) (pName 4))) (rngD lo 1 ks.length)
      [s0, .val (GD gs), s2, .val (tD t), .val (.int ((v : Nat) : Int)), x5, .no, .no, .no] w0 = some (.nx, [s0, .val (GD gs), s2, .val (tD t), .val (.int ((u : Nat) : Int)), y5, .no, .no, .no], w0)
  | [], v, u, lo, x5, hv, hc => by
    cases hc
    exact ⟨x5, rfl⟩
  | k :: ks, v, u, lo, x5, hv, hc => by
    obtain ⟨hk, hn⟩ := h.step hc.1
    obtain ⟨y5, e⟩ := back_loop (s0 := s0) (s2 := s2) h ks (one gs k) u (lo + 1) (.val (.int lo)) hn hc.2
    have e1 := ix_t (t := t) (a := v) (by rw [h.len]; exact hv)
    rw [hc.1] at e1
    have e2 := ix_g hk
    refine ⟨y5, ?_⟩
    rw [List.length_cons, rngD_succ, forGo_cons]
    simp only [runM, runS, env0, flD, cal, sSeq, sIf, sRet, sRetN, sDrop, sAsg, sOwn, sFrz, frz, sPar, sPar3, sParF, sParF3, mkSl, sNx, sNo, sBk, sCt, sApp, sExt, sSetIx, sAug, sFor, sWhile, m1, m2, mC, mVar, mLook, mAnd, mOr, mNot, mIte, mB, mV, mTru, dTru, mAndV, mOrV, mNotV, mNil, mCons, mTup, mLst, mF, mFS, mItems, mRng, mRng1, mRng2, mRng3, dRng1, dRng2, dRng3, mEnum, mZip, mEnumA, mZipA, mCut, mNoP, mPt, mRev, mNeg, dNeg, dRev, dCut, mLc, mYes, pName, pTup, pTupL, pNil, pCons, wipeS, dAdd, dSub, dMul, dDiv, dMod, dMulI, dAddI, dCmp, dIsN, dNotN, isNone, dLenX, dLen, seqOf, dAbs, dMax2, dMin2, dInt, dTuple, dList, dCatL, dRepL, mSt, mStLen, mStCell, sSt, sSt3, drwGet, drwSet, mCh2, mCh3, mCount, dCount, Option.bind_some, Option.map_some, Option.bind_none, Option.map_none, List.getElem?_cons_zero, List.getElem?_cons_succ, List.set_cons_zero, List.set_cons_succ, List.map_cons, List.map_nil, List.cons_append, List.nil_append, List.replicate_succ, List.replicate_zero, List.length_cons, List.length_nil, if_true, if_false, reduceIte, Bool.false_eq_true, Bool.not_true, Bool.not_false, decide_true, decide_false, e1, oD, e2, gD, ix_tup3_0]
    exact e
theorem ring_loop {n : Nat} {gs : List Gap} {t : Tl} {s0 s2 x5 : Sl} (h : Told n gs t) : ∀ (ks : List Nat) (v b f : Nat) (acc : List Nat), v < n → Chain gs t v ks b → (ks = [] → acc ≠ []) → ks.length + 1 ≤ f → acc.length + ks.length ≤ 1000 → ∃ k1, Chain gs t v k1 b ∧ (acc = [] → k1 ≠ []) ∧ k1.length ≤ ks.length ∧
    whGo (mOr (mNot (mTru (mLook 7))) (mB (m2 dNe (mLook 4) (mLook 6)))) (sSeq (sApp 7 (m2 dIx (mLook 3) (mLook 4))) (sAsg (m2 dIx (m2 dIx (mLook 1) (m2 dIx (mLook 3) (mLook 4))) (mC (.int 0))) (pName 4))) f
      [s0, .val (GD gs), s2, .val (tD t), .val (.int ((v : Nat) : Int)), x5, .val (.int ((b : Nat) : Int)), .own (.list (nD acc)), .no] w0 = some (.nx, [s0, .val (GD gs), s2, .val (tD t), .val (.int ((b : Nat) : Int)), x5, .val (.int ((b : Nat) : Int)), .own (.list (nD (acc ++ k1))), .no], w0) := by
  intro ks
  induction ks with
  | nil =>
    intro v b f acc hv hc hne hf hl
    cases hc
    obtain ⟨f, rfl⟩ : ∃ g, f = g + 1 := ⟨f - 1, by omega⟩
    refine ⟨[], rfl, fun e => absurd e (hne rfl), Nat.le_refl _, ?_⟩
    obtain ⟨a, r, rfl⟩ : ∃ a r, acc = a :: r := by
      cases acc with
      | nil => exact absurd rfl (hne rfl)
      | cons a r => exact ⟨a, r, rfl⟩
    have nn := dNe_int ((v : Nat) : Int) ((v : Nat) : Int)
    rw [whGo_succ, List.append_nil]
    simp [runM, runS, env0, flD, cal, sSeq, sIf, sRet, sRetN, sDrop, sAsg, sOwn, sFrz, frz, sPar, sPar3, sParF, sParF3, mkSl, sNx, sNo, sBk, sCt, sApp, sExt, sSetIx, sAug, sFor, sWhile, m1, m2, mC, mVar, mLook, mAnd, mOr, mNot, mIte, mB, mV, mTru, dTru, mAndV, mOrV, mNotV, mNil, mCons, mTup, mLst, mF, mFS, mItems, mRng, mRng1, mRng2, mRng3, dRng1, dRng2, dRng3, mEnum, mZip, mEnumA, mZipA, mCut, mNoP, mPt, mRev, mNeg, dNeg, dRev, dCut, mLc, mYes, pName, pTup, pTupL, pNil, pCons, wipeS, dAdd, dSub, dMul, dDiv, dMod, dMulI, dAddI, dCmp, dIsN, dNotN, isNone, dLenX, dLen, seqOf, dAbs, dMax2, dMin2, dInt, dTuple, dList, dCatL, dRepL, mSt, mStLen, mStCell, sSt, sSt3, drwGet, drwSet, mCh2, mCh3, mCount, dCount, Option.bind_some, Option.map_some, Option.bind_none, Option.map_none, List.getElem?_cons_zero, List.getElem?_cons_succ, List.set_cons_zero, List.set_cons_succ, List.map_cons, List.map_nil, List.cons_append, List.nil_append, List.replicate_succ, List.replicate_zero, List.length_cons, List.length_nil, if_true, if_false, reduceIte, Bool.false_eq_true, Bool.not_true, Bool.not_false, decide_true, decide_false, nD, nn]
  | cons k ks ih =>
    intro v b f acc hv hc hne hf hl
    obtain ⟨f, rfl⟩ : ∃ g, f = g + 1 := ⟨f - 1, by simp at hf; omega⟩
    by_cases stop : acc ≠ [] ∧ v = b
    · obtain ⟨ha, rfl⟩ := stop
      refine ⟨[], rfl, fun e => absurd e ha, Nat.zero_le _, ?_⟩
      obtain ⟨a, r, rfl⟩ : ∃ a r, acc = a :: r := by
        cases acc with
        | nil => exact absurd rfl ha
        | cons a r => exact ⟨a, r, rfl⟩
      have nn := dNe_int ((v : Nat) : Int) ((v : Nat) : Int)
      rw [whGo_succ, List.append_nil]
      simp [runM, runS, env0, flD, cal, sSeq, sIf, sRet, sRetN, sDrop, sAsg, sOwn, sFrz, frz, sPar, sPar3, sParF, sParF3, mkSl, sNx, sNo, sBk, sCt, sApp, sExt, sSetIx, sAug, sFor, sWhile, m1, m2, mC, mVar, mLook, mAnd, mOr, mNot, mIte, mB, mV, mTru, dTru, mAndV, mOrV, mNotV, mNil, mCons, mTup, mLst, mF, mFS, mItems, mRng, mRng1, mRng2, mRng3, dRng1, dRng2, dRng3, mEnum, mZip, mEnumA, mZipA, mCut, mNoP, mPt, mRev, mNeg, dNeg, dRev, dCut, mLc, mYes, pName, pTup, pTupL, pNil, pCons, wipeS, dAdd, dSub, dMul, dDiv, dMod, dMulI, dAddI, dCmp, dIsN, dNotN, isNone, dLenX, dLen, seqOf, dAbs, dMax2, dMin2, dInt, dTuple, dList, dCatL, dRepL, mSt, mStLen, mStCell, sSt, sSt3, drwGet, drwSet, mCh2, mCh3, mCount, dCount, Option.bind_some, Option.map_some, Option.bind_none, Option.map_none, List.getElem?_cons_zero, List.getElem?_cons_succ, List.set_cons_zero, List.set_cons_succ, List.map_cons, List.map_nil, List.cons_append, List.nil_append, List.replicate_succ, List.replicate_zero, List.length_cons, List.length_nil, if_true, if_false, reduceIte, Bool.false_eq_true, Bool.not_true, Bool.not_false, decide_true, decide_false, nD, nn]
    · obtain ⟨hk, hn⟩ := h.step hc.1
      obtain ⟨k1, q1, q2, q3, q4⟩ := ih (one gs k) b f (acc ++ [k]) hn hc.2 (fun _ => by simp) (by simp at hf; omega) (by simp at hl ⊢; omega)
      refine ⟨k :: k1, ⟨hc.1, q1⟩, fun _ => List.cons_ne_nil _ _, by simp; omega, ?_⟩
      have e1 := ix_t (t := t) (a := v) (by rw [h.len]; exact hv)
      rw [hc.1] at e1
      have e2 := ix_g hk
      have l1 : (nD acc).length + 1 ≤ LB := by
        unfold nD; rw [List.length_map]; show _ ≤ 1000000; omega
      have ap : nD (acc ++ [k]) = nD acc ++ [.int ((k : Nat) : Int)] := by simp [nD]
      rw [ap, List.append_assoc] at q4
      have tst : mOr (mNot (mTru (mLook 7))) (mB (m2 dNe (mLook 4) (mLook 6))) [s0, .val (GD gs), s2, .val (tD t), .val (.int ((v : Nat) : Int)), x5, .val (.int ((b : Nat) : Int)), .own (.list (nD acc)), .no] w0 = some (true, w0) := by
        cases acc with
        | nil => rfl
        | cons a r =>
          have hvb : v ≠ b := fun z => stop ⟨List.cons_ne_nil _ _, z⟩
          have nn := dNe_int ((v : Nat) : Int) ((b : Nat) : Int)
          have d : decide (((v : Nat) : Int) = ((b : Nat) : Int)) = false := decide_eq_false (by omega)
          rw [d] at nn
          simp [runM, runS, env0, flD, cal, sSeq, sIf, sRet, sRetN, sDrop, sAsg, sOwn, sFrz, frz, sPar, sPar3, sParF, sParF3, mkSl, sNx, sNo, sBk, sCt, sApp, sExt, sSetIx, sAug, sFor, sWhile, m1, m2, mC, mVar, mLook, mAnd, mOr, mNot, mIte, mB, mV, mTru, dTru, mAndV, mOrV, mNotV, mNil, mCons, mTup, mLst, mF, mFS, mItems, mRng, mRng1, mRng2, mRng3, dRng1, dRng2, dRng3, mEnum, mZip, mEnumA, mZipA, mCut, mNoP, mPt, mRev, mNeg, dNeg, dRev, dCut, mLc, mYes, pName, pTup, pTupL, pNil, pCons, wipeS, dAdd, dSub, dMul, dDiv, dMod, dMulI, dAddI, dCmp, dIsN, dNotN, isNone, dLenX, dLen, seqOf, dAbs, dMax2, dMin2, dInt, dTuple, dList, dCatL, dRepL, mSt, mStLen, mStCell, sSt, sSt3, drwGet, drwSet, mCh2, mCh3, mCount, dCount, Option.bind_some, Option.map_some, Option.bind_none, Option.map_none, List.getElem?_cons_zero, List.getElem?_cons_succ, List.set_cons_zero, List.set_cons_succ, List.map_cons, List.map_nil, List.cons_append, List.nil_append, List.replicate_succ, List.replicate_zero, List.length_cons, List.length_nil, if_true, if_false, reduceIte, Bool.false_eq_true, Bool.not_true, Bool.not_false, decide_true, decide_false, nD, nn]
      rw [whGo_succ, tst, Option.bind_some, if_pos rfl]
      simp only [runM, runS, env0, flD, cal, sSeq, sIf, sRet, sRetN, sDrop, sAsg, sOwn, sFrz, frz, sPar, sPar3, sParF, sParF3, mkSl, sNx, sNo, sBk, sCt, sApp, sExt, sSetIx, sAug, sFor, sWhile, m1, m2, mC, mVar, mLook, mAnd, mOr, mNot, mIte, mB, mV, mTru, dTru, mAndV, mOrV, mNotV, mNil, mCons, mTup, mLst, mF, mFS, mItems, mRng, mRng1, mRng2, mRng3, dRng1, dRng2, dRng3, mEnum, mZip, mEnumA, mZipA, mCut, mNoP, mPt, mRev, mNeg, dNeg, dRev, dCut, mLc, mYes, pName, pTup, pTupL, pNil, pCons, wipeS, dAdd, dSub, dMul, dDiv, dMod, dMulI, dAddI, dCmp, dIsN, dNotN, isNone, dLenX, dLen, seqOf, dAbs, dMax2, dMin2, dInt, dTuple, dList, dCatL, dRepL, mSt, mStLen, mStCell, sSt, sSt3, drwGet, drwSet, mCh2, mCh3, mCount, dCount, Option.bind_some, Option.map_some, Option.bind_none, Option.map_none, List.getElem?_cons_zero, List.getElem?_cons_succ, List.set_cons_zero, List.set_cons_succ, List.map_cons, List.map_nil, List.cons_append, List.nil_append, List.replicate_succ, List.replicate_zero, List.length_cons, List.length_nil, if_true, if_false, reduceIte, Bool.false_eq_true, Bool.not_true, Bool.not_false, decide_true, decide_false, e1, oD, e2, gD, ix_tup3_0, if_pos l1]
      exact q4
theorem grow_told {sp : List Span} {gs : List Gap} (h : Sys sp gs) (r : Nat) : Told sp.length gs (grow sp gs r).2 := ⟨(grow_bi h r).lt, h.gap, fun i k hi => ((grow_bi h r).edge i k hi).1⟩
theorem ev_grown_sp {sp : List Span} {gs : List Gap} (h : Sys sp gs) {r : Nat} (hr : r ≤ 100) : G_grown [.list ((los sp).map .int), GD gs, .int ((r : Nat) : Int)] = some (.tuple [yD (grow sp gs r).1, tD (grow sp gs r).2]) := by
  have q := ev_grown (lo := los sp) (r := r) (gs := gs) (by rw [los_len]; exact h.few) hr (by rw [los_len]; exact h.gap)
  rw [los_len] at q
  exact q
theorem lc_los {sp : List Span} {S : SEnv} {i : Nat} (hi : i < S.length) : lcGo (pName i) mYes (m2 dIx (mLook i) (mC (.int 0))) S (sp.map sD) w0 = some ((los sp).map .int, w0) := by
  have e : (los sp).map PyData.int = sp.map fun s => PyData.int s.1 := by unfold los; rw [List.map_map]; rfl
  rw [e]
  refine lc_as fun s hs => ⟨S.set i (.val (sD s)), rfl, ?_⟩
  have g : (S.set i (.val (sD s)))[i]? = some (.val (sD s)) := by rw [List.getElem?_set_self hi]
  simp only [sD] at g
  simp only [runM, runS, env0, flD, cal, sSeq, sIf, sRet, sRetN, sDrop, sAsg, sOwn, sFrz, frz, sPar, sPar3, sParF, sParF3, mkSl, sNx, sNo, sBk, sCt, sApp, sExt, sSetIx, sAug, sFor, sWhile, m1, m2, mC, mVar, mLook, mAnd, mOr, mNot, mIte, mB, mV, mTru, dTru, mAndV, mOrV, mNotV, mNil, mCons, mTup, mLst, mF, mFS, mItems, mRng, mRng1, mRng2, mRng3, dRng1, dRng2, dRng3, mEnum, mZip, mEnumA, mZipA, mCut, mNoP, mPt, mRev, mNeg, dNeg, dRev, dCut, mLc, mYes, pName, pTup, pTupL, pNil, pCons, wipeS, dAdd, dSub, dMul, dDiv, dMod, dMulI, dAddI, dCmp, dIsN, dNotN, isNone, dLenX, dLen, seqOf, dAbs, dMax2, dMin2, dInt, dTuple, dList, dCatL, dRepL, mSt, mStLen, mStCell, sSt, sSt3, drwGet, drwSet, mCh2, mCh3, mCount, dCount, Option.bind_some, Option.map_some, Option.bind_none, Option.map_none, List.getElem?_cons_zero, List.getElem?_cons_succ, List.set_cons_zero, List.set_cons_succ, List.map_cons, List.map_nil, List.cons_append, List.nil_append, List.replicate_succ, List.replicate_zero, List.length_cons, List.length_nil, if_true, if_false, reduceIte, Bool.false_eq_true, Bool.not_true, Bool.not_false, decide_true, decide_false, g, sD, ix_tup2_0]
theorem ev_ring_from {sp : List Span} {gs : List Gap} (h : Sys sp gs) (hR : Raised gs (grow sp gs (sp.length + 1)).1) :
    ∃ c u, c ≠ [] ∧ c.length ≤ sp.length + 1 ∧ Chain gs (grow sp gs (sp.length + 1)).2 u c u ∧ G_ring_from [SD sp, GD gs] = some (.tuple (nD c.reverse)) := by
  have hne := (raised_iff _ _).mp hR
  obtain ⟨k, kr, hL⟩ : ∃ k kr, raisedL gs (grow sp gs (sp.length + 1)).1 = k :: kr := by
    cases e : raisedL gs (grow sp gs (sp.length + 1)).1 with
    | nil => exact absurd e hne
    | cons k kr => exact ⟨k, kr, rfl⟩
  obtain ⟨hk, hraise⟩ := raisedL_head hL
  obtain ⟨ks, u, c, h1, h2, h3, h4, h5⟩ := raised_cycle h (Nat.le_succ _) hk hraise
  have td := grow_told h (sp.length + 1)
  have I := grow_bi h (sp.length + 1)
  have f7 := h.few
  have hun : one gs k < sp.length := (h.gap _ (mem_gap hk)).1
  have hu : u < sp.length := by
    cases c with
    | nil => exact absurd rfl h3
    | cons k0 r => exact (I.edge u k0 h4.1).2.2.1
  have e3 : ((sp.length + 1 : Nat) : Int) = ((sp.length : Nat) : Int) + 1 := by omega
  have gr := ev_grown_sp h (r := sp.length + 1) (by omega)
  have rs := ev_raised_still (gs := gs) (y := (grow sp gs (sp.length + 1)).1) (by have := h.gfew; omega) (by rw [grow_len]; exact h.gap)
  rw [hL] at rs
  have eg := ix_g hk
  obtain ⟨y5, b1⟩ := back_loop (s0 := .val (SD sp)) (s2 := .val (yD (grow sp gs (sp.length + 1)).1)) td ks (one gs k) u 0 .no hun h2
  obtain ⟨c1, c2, c3, c4, r1⟩ := ring_loop (s0 := .val (SD sp)) (s2 := .val (yD (grow sp gs (sp.length + 1)).1)) (x5 := y5) td c u u 100000 [] hu h4 (fun z => absurd z h3) (by omega) (by simp; omega)
  refine ⟨c1, u, c3 rfl, by omega, c2, ?_⟩
  unfold G_ring_from
  refine runM_rt [.val (SD sp), .val (GD gs), .no, .no, .no, .no, .no, .no, .no] rfl ?_
  unfold m_ring_from
  have hl : ((los sp).map PyData.int).length ≤ LB := by rw [List.length_map, los_len]; show _ ≤ 1000000; omega
  have lc := mLc_of (mi := mItems (mLook 0)) (p := pName 8) (t := mYes) (e := m2 dIx (mLook 8) (mC (.int 0))) (vs := [8]) (S := [.val (SD sp), .val (GD gs), .no, .no, .no, .no, .no, .no, .no]) (w := w0) (w1 := w0) (by simp only [runM, runS, env0, flD, cal, sSeq, sIf, sRet, sRetN, sDrop, sAsg, sOwn, sFrz, frz, sPar, sPar3, sParF, sParF3, mkSl, sNx, sNo, sBk, sCt, sApp, sExt, sSetIx, sAug, sFor, sWhile, m1, m2, mC, mVar, mLook, mAnd, mOr, mNot, mIte, mB, mV, mTru, dTru, mAndV, mOrV, mNotV, mNil, mCons, mTup, mLst, mF, mFS, mItems, mRng, mRng1, mRng2, mRng3, dRng1, dRng2, dRng3, mEnum, mZip, mEnumA, mZipA, mCut, mNoP, mPt, mRev, mNeg, dNeg, dRev, dCut, mLc, mYes, pName, pTup, pTupL, pNil, pCons, wipeS, dAdd, dSub, dMul, dDiv, dMod, dMulI, dAddI, dCmp, dIsN, dNotN, isNone, dLenX, dLen, seqOf, dAbs, dMax2, dMin2, dInt, dTuple, dList, dCatL, dRepL, mSt, mStLen, mStCell, sSt, sSt3, drwGet, drwSet, mCh2, mCh3, mCount, dCount, Option.bind_some, Option.map_some, Option.bind_none, Option.map_none, List.getElem?_cons_zero, List.getElem?_cons_succ, List.set_cons_zero, List.set_cons_succ, List.map_cons, List.map_nil, List.cons_append, List.nil_append, List.replicate_succ, List.replicate_zero, List.length_cons, List.length_nil, if_true, if_false, reduceIte, Bool.false_eq_true, Bool.not_true, Bool.not_false, decide_true, decide_false, SD]) (lc_los (sp := sp) (i := 8) (S := [.val (SD sp), .val (GD gs), .no, .no, .no, .no, .no, .no, .no]) (by simp)) hl
  rw [e3] at gr
  rw [seq_nx (S1 := [.val (SD sp), .val (GD gs), .val (yD (grow sp gs (sp.length + 1)).1), .val (tD (grow sp gs (sp.length + 1)).2), .no, .no, .no, .no, .no]) (w1 := w0) (by
    unfold sAsg mF
    simp only [mCons, mNil, lc]
    simp only [SD, List.length_map, runM, runS, env0, flD, cal, sSeq, sIf, sRet, sRetN, sDrop, sAsg, sOwn, sFrz, frz, sPar, sPar3, sParF, sParF3, mkSl, sNx, sNo, sBk, sCt, sApp, sExt, sSetIx, sAug, sFor, sWhile, m1, m2, mC, mVar, mLook, mAnd, mOr, mNot, mIte, mB, mV, mTru, dTru, mAndV, mOrV, mNotV, mNil, mCons, mTup, mLst, mF, mFS, mItems, mRng, mRng1, mRng2, mRng3, dRng1, dRng2, dRng3, mEnum, mZip, mEnumA, mZipA, mCut, mNoP, mPt, mRev, mNeg, dNeg, dRev, dCut, mLc, mYes, pName, pTup, pTupL, pNil, pCons, wipeS, dAdd, dSub, dMul, dDiv, dMod, dMulI, dAddI, dCmp, dIsN, dNotN, isNone, dLenX, dLen, seqOf, dAbs, dMax2, dMin2, dInt, dTuple, dList, dCatL, dRepL, mSt, mStLen, mStCell, sSt, sSt3, drwGet, drwSet, mCh2, mCh3, mCount, dCount, Option.bind_some, Option.map_some, Option.bind_none, Option.map_none, List.getElem?_cons_zero, List.getElem?_cons_succ, List.set_cons_zero, List.set_cons_succ, List.map_cons, List.map_nil, List.cons_append, List.nil_append, List.replicate_succ, List.replicate_zero, List.length_cons, List.length_nil, if_true, if_false, reduceIte, Bool.false_eq_true, Bool.not_true, Bool.not_false, decide_true, decide_false, Nat.zero_add, Nat.reduceAdd, gr])]
  rw [seq_nx (S1 := [.val (SD sp), .val (GD gs), .val (yD (grow sp gs (sp.length + 1)).1), .val (tD (grow sp gs (sp.length + 1)).2), .val (.int ((one gs k : Nat) : Int)), .no, .no, .no, .no]) (w1 := w0) (by
    simp only [runM, runS, env0, flD, cal, sSeq, sIf, sRet, sRetN, sDrop, sAsg, sOwn, sFrz, frz, sPar, sPar3, sParF, sParF3, mkSl, sNx, sNo, sBk, sCt, sApp, sExt, sSetIx, sAug, sFor, sWhile, m1, m2, mC, mVar, mLook, mAnd, mOr, mNot, mIte, mB, mV, mTru, dTru, mAndV, mOrV, mNotV, mNil, mCons, mTup, mLst, mF, mFS, mItems, mRng, mRng1, mRng2, mRng3, dRng1, dRng2, dRng3, mEnum, mZip, mEnumA, mZipA, mCut, mNoP, mPt, mRev, mNeg, dNeg, dRev, dCut, mLc, mYes, pName, pTup, pTupL, pNil, pCons, wipeS, dAdd, dSub, dMul, dDiv, dMod, dMulI, dAddI, dCmp, dIsN, dNotN, isNone, dLenX, dLen, seqOf, dAbs, dMax2, dMin2, dInt, dTuple, dList, dCatL, dRepL, mSt, mStLen, mStCell, sSt, sSt3, drwGet, drwSet, mCh2, mCh3, mCount, dCount, Option.bind_some, Option.map_some, Option.bind_none, Option.map_none, List.getElem?_cons_zero, List.getElem?_cons_succ, List.set_cons_zero, List.set_cons_succ, List.map_cons, List.map_nil, List.cons_append, List.nil_append, List.replicate_succ, List.replicate_zero, List.length_cons, List.length_nil, if_true, if_false, reduceIte, Bool.false_eq_true, Bool.not_true, Bool.not_false, decide_true, decide_false, Nat.zero_add, Nat.reduceAdd, rs, headD, eg, gD, ix_tup3_0])]
  have sm := smallI_of (i := ((sp.length : Nat) : Int) + 1) (by omega) (by omega)
  have tn : (((sp.length : Nat) : Int) + 1).toNat = ks.length := by rw [h1]; omega
  rw [seq_nx (sFor_of (w1 := w0) (ds := rngD 0 1 ks.length) (by
    simp only [runM, runS, env0, flD, cal, sSeq, sIf, sRet, sRetN, sDrop, sAsg, sOwn, sFrz, frz, sPar, sPar3, sParF, sParF3, mkSl, sNx, sNo, sBk, sCt, sApp, sExt, sSetIx, sAug, sFor, sWhile, m1, m2, mC, mVar, mLook, mAnd, mOr, mNot, mIte, mB, mV, mTru, dTru, mAndV, mOrV, mNotV, mNil, mCons, mTup, mLst, mF, mFS, mItems, mRng, mRng1, mRng2, mRng3, dRng1, dRng2, dRng3, mEnum, mZip, mEnumA, mZipA, mCut, mNoP, mPt, mRev, mNeg, dNeg, dRev, dCut, mLc, mYes, pName, pTup, pTupL, pNil, pCons, wipeS, dAdd, dSub, dMul, dDiv, dMod, dMulI, dAddI, dCmp, dIsN, dNotN, isNone, dLenX, dLen, seqOf, dAbs, dMax2, dMin2, dInt, dTuple, dList, dCatL, dRepL, mSt, mStLen, mStCell, sSt, sSt3, drwGet, drwSet, mCh2, mCh3, mCount, dCount, Option.bind_some, Option.map_some, Option.bind_none, Option.map_none, List.getElem?_cons_zero, List.getElem?_cons_succ, List.set_cons_zero, List.set_cons_succ, List.map_cons, List.map_nil, List.cons_append, List.nil_append, List.replicate_succ, List.replicate_zero, List.length_cons, List.length_nil, if_true, if_false, reduceIte, Bool.false_eq_true, Bool.not_true, Bool.not_false, decide_true, decide_false, SD, List.length_map, if_pos sm, tn]) b1)]
  rw [seq_nx (S1 := [.val (SD sp), .val (GD gs), .val (yD (grow sp gs (sp.length + 1)).1), .val (tD (grow sp gs (sp.length + 1)).2), .val (.int ((u : Nat) : Int)), y5, .val (.int ((u : Nat) : Int)), .no, .no]) (w1 := w0) (by simp only [runM, runS, env0, flD, cal, sSeq, sIf, sRet, sRetN, sDrop, sAsg, sOwn, sFrz, frz, sPar, sPar3, sParF, sParF3, mkSl, sNx, sNo, sBk, sCt, sApp, sExt, sSetIx, sAug, sFor, sWhile, m1, m2, mC, mVar, mLook, mAnd, mOr, mNot, mIte, mB, mV, mTru, dTru, mAndV, mOrV, mNotV, mNil, mCons, mTup, mLst, mF, mFS, mItems, mRng, mRng1, mRng2, mRng3, dRng1, dRng2, dRng3, mEnum, mZip, mEnumA, mZipA, mCut, mNoP, mPt, mRev, mNeg, dNeg, dRev, dCut, mLc, mYes, pName, pTup, pTupL, pNil, pCons, wipeS, dAdd, dSub, dMul, dDiv, dMod, dMulI, dAddI, dCmp, dIsN, dNotN, isNone, dLenX, dLen, seqOf, dAbs, dMax2, dMin2, dInt, dTuple, dList, dCatL, dRepL, mSt, mStLen, mStCell, sSt, sSt3, drwGet, drwSet, mCh2, mCh3, mCount, dCount, Option.bind_some, Option.map_some, Option.bind_none, Option.map_none, List.getElem?_cons_zero, List.getElem?_cons_succ, List.set_cons_zero, List.set_cons_succ, List.map_cons, List.map_nil, List.cons_append, List.nil_append, List.replicate_succ, List.replicate_zero, List.length_cons, List.length_nil, if_true, if_false, reduceIte, Bool.false_eq_true, Bool.not_true, Bool.not_false, decide_true, decide_false])]
  have l0 : (0 : Nat) ≤ LB := by decide
  rw [seq_nx (S1 := [.val (SD sp), .val (GD gs), .val (yD (grow sp gs (sp.length + 1)).1), .val (tD (grow sp gs (sp.length + 1)).2), .val (.int ((u : Nat) : Int)), y5, .val (.int ((u : Nat) : Int)), .own (.list (nD [])), .no]) (w1 := w0) (by simp only [runM, runS, env0, flD, cal, sSeq, sIf, sRet, sRetN, sDrop, sAsg, sOwn, sFrz, frz, sPar, sPar3, sParF, sParF3, mkSl, sNx, sNo, sBk, sCt, sApp, sExt, sSetIx, sAug, sFor, sWhile, m1, m2, mC, mVar, mLook, mAnd, mOr, mNot, mIte, mB, mV, mTru, dTru, mAndV, mOrV, mNotV, mNil, mCons, mTup, mLst, mF, mFS, mItems, mRng, mRng1, mRng2, mRng3, dRng1, dRng2, dRng3, mEnum, mZip, mEnumA, mZipA, mCut, mNoP, mPt, mRev, mNeg, dNeg, dRev, dCut, mLc, mYes, pName, pTup, pTupL, pNil, pCons, wipeS, dAdd, dSub, dMul, dDiv, dMod, dMulI, dAddI, dCmp, dIsN, dNotN, isNone, dLenX, dLen, seqOf, dAbs, dMax2, dMin2, dInt, dTuple, dList, dCatL, dRepL, mSt, mStLen, mStCell, sSt, sSt3, drwGet, drwSet, mCh2, mCh3, mCount, dCount, Option.bind_some, Option.map_some, Option.bind_none, Option.map_none, List.getElem?_cons_zero, List.getElem?_cons_succ, List.set_cons_zero, List.set_cons_succ, List.map_cons, List.map_nil, List.cons_append, List.nil_append, List.replicate_succ, List.replicate_zero, List.length_cons, List.length_nil, if_true, if_false, reduceIte, Bool.false_eq_true, Bool.not_true, Bool.not_false, decide_true, decide_false, if_pos l0, nD])]
  rw [seq_nx (sWhile_of r1)]
  have rv : (nD c1).reverse = nD c1.reverse := by simp [nD]
  simp only [runM, runS, env0, flD, cal, sSeq, sIf, sRet, sRetN, sDrop, sAsg, sOwn, sFrz, frz, sPar, sPar3, sParF, sParF3, mkSl, sNx, sNo, sBk, sCt, sApp, sExt, sSetIx, sAug, sFor, sWhile, m1, m2, mC, mVar, mLook, mAnd, mOr, mNot, mIte, mB, mV, mTru, dTru, mAndV, mOrV, mNotV, mNil, mCons, mTup, mLst, mF, mFS, mItems, mRng, mRng1, mRng2, mRng3, dRng1, dRng2, dRng3, mEnum, mZip, mEnumA, mZipA, mCut, mNoP, mPt, mRev, mNeg, dNeg, dRev, dCut, mLc, mYes, pName, pTup, pTupL, pNil, pCons, wipeS, dAdd, dSub, dMul, dDiv, dMod, dMulI, dAddI, dCmp, dIsN, dNotN, isNone, dLenX, dLen, seqOf, dAbs, dMax2, dMin2, dInt, dTuple, dList, dCatL, dRepL, mSt, mStLen, mStCell, sSt, sSt3, drwGet, drwSet, mCh2, mCh3, mCount, dCount, Option.bind_some, Option.map_some, Option.bind_none, Option.map_none, List.getElem?_cons_zero, List.getElem?_cons_succ, List.set_cons_zero, List.set_cons_succ, List.map_cons, List.map_nil, List.cons_append, List.nil_append, List.replicate_succ, List.replicate_zero, List.length_cons, List.length_nil, if_true, if_false, reduceIte, Bool.false_eq_true, Bool.not_true, Bool.not_false, decide_true, decide_false, rv]
  exact ⟨_, _, rfl⟩
end K64

set_option Elab.async false
set_option linter.all false
set_option maxRecDepth 100000
set_option maxHeartbeats 4000000
namespace K64
open PySem PySem.Spec PyProof.Rows L2 Mini
def lateL (sp : List Span) (y : List Int) : List Nat := (List.range sp.length).filter fun v => decide (A y v > shi sp v)
theorem lb_of {n : Nat} (h : n ≤ 1000000) : n ≤ LB := h
theorem nD_len (ks : List Nat) : (nD ks).length = ks.length := by simp [nD]
theorem lc_late {sp : List Span} {gs : List Gap} {y : List Int} {t : PyData} (hl : y.length = sp.length) : lcGo (pTup (pCons (pName 7) (pCons (pName 6) pNil))) (mB (m2 dGt (m2 dIx (mLook 2) (mLook 7)) (m2 dIx (mLook 6) (mC (.int 1))))) (mVar 7)
    [.val (SD sp), .val (GD gs), .val (yD y), .val t, .val .none, .no, .no, .no] (enumD 0 (sp.map sD)) w0 = some (nD (lateL sp y), w0) := by
  rw [enumD_spans]
  refine lc_asF (f := fun v => .int ((v : Nat) : Int)) (c := fun v => decide (A y v > shi sp v)) fun v hv => ?_
  have hv := List.mem_range.mp hv
  have e1 := ix_y (y := y) (a := v) (by omega)
  refine ⟨[.val (SD sp), .val (GD gs), .val (yD y), .val t, .val .none, .no, .val (sD (slo sp v, shi sp v)), .val (.int ((v : Nat) : Int))], rfl, ?_, fun _ => rfl⟩
  simp only [runM, runS, env0, flD, cal, sSeq, sIf, sRet, sRetN, sDrop, sAsg, sOwn, sFrz, frz, sPar, sPar3, sParF, sParF3, mkSl, sNx, sNo, sBk, sCt, sApp, sExt, sSetIx, sAug, sFor, sWhile, m1, m2, mC, mVar, mLook, mAnd, mOr, mNot, mIte, mB, mV, mTru, dTru, mAndV, mOrV, mNotV, mNil, mCons, mTup, mLst, mF, mFS, mItems, mRng, mRng1, mRng2, mRng3, dRng1, dRng2, dRng3, mEnum, mZip, mEnumA, mZipA, mCut, mNoP, mPt, mRev, mNeg, dNeg, dRev, dCut, mLc, mYes, pName, pTup, pTupL, pNil, pCons, wipeS, dAdd, dSub, dMul, dDiv, dMod, dMulI, dAddI, dCmp, dIsN, dNotN, isNone, dLenX, dLen, seqOf, dAbs, dMax2, dMin2, dInt, dTuple, dList, dCatL, dRepL, mSt, mStLen, mStCell, sSt, sSt3, drwGet, drwSet, mCh2, mCh3, mCount, dCount, Option.bind_some, Option.map_some, Option.bind_none, Option.map_none, List.getElem?_cons_zero, List.getElem?_cons_succ, List.set_cons_zero, List.set_cons_succ, List.map_cons, List.map_nil, List.cons_append, List.nil_append, List.replicate_succ, List.replicate_zero, List.length_cons, List.length_nil, if_true, if_false, reduceIte, Bool.false_eq_true, Bool.not_true, Bool.not_false, decide_true, decide_false, e1, sD, ix_tup2_1]
/-- what is told -/
inductive Judged (sp : List Span) (gs : List Gap) : PyData → Prop
  | ring {c : List Nat} {u : Nat} : Raised gs (least sp gs) → c ≠ [] → c.length ≤ 8 → Way gs u c u → 0 < W gs c → Judged sp gs (.tuple [.str "ring", .tuple (nD c.reverse)])
  | late {ks : List Nat} {v u : Nat} : ¬ Raised gs (least sp gs) → v < sp.length → shi sp v < A (least sp gs) v → ks ≠ [] → ks.length ≤ 7 → Way gs v ks u → shi sp v < slo sp u + W gs ks → Judged sp gs (.tuple [.str "late", .tuple (nD ks.reverse)])
  | years : Sol sp gs (least sp gs) → Judged sp gs (.tuple [.str "years", rowD (least sp gs)])
theorem ev_judge {sp : List Span} {gs : List Gap} (h : Sys sp gs) : ∃ d, G_judge_layers [SD sp, GD gs] = some d ∧ Judged sp gs d := by
  have f7 := h.few
  have gf := h.gfew
  have ck := ev_check_layers h
  have gr := ev_grown_sp h (r := sp.length) (by omega)
  have rs := ev_raised_still (gs := gs) (y := (grow sp gs sp.length).1) (by omega) (by rw [grow_len]; exact h.gap)
  have hl : ((los sp).map PyData.int).length ≤ LB := by rw [List.length_map, los_len]; exact lb_of (by omega)
  have lc := mLc_of (mi := mItems (mLook 0)) (p := pName 6) (t := mYes) (e := m2 dIx (mLook 6) (mC (.int 0))) (vs := [6]) (S := [.val (SD sp), .val (GD gs), .no, .no, .no, .no, .no, .no]) (w := w0) (w1 := w0) (by simp only [runM, runS, env0, flD, cal, sSeq, sIf, sRet, sRetN, sDrop, sAsg, sOwn, sFrz, frz, sPar, sPar3, sParF, sParF3, mkSl, sNx, sNo, sBk, sCt, sApp, sExt, sSetIx, sAug, sFor, sWhile, m1, m2, mC, mVar, mLook, mAnd, mOr, mNot, mIte, mB, mV, mTru, dTru, mAndV, mOrV, mNotV, mNil, mCons, mTup, mLst, mF, mFS, mItems, mRng, mRng1, mRng2, mRng3, dRng1, dRng2, dRng3, mEnum, mZip, mEnumA, mZipA, mCut, mNoP, mPt, mRev, mNeg, dNeg, dRev, dCut, mLc, mYes, pName, pTup, pTupL, pNil, pCons, wipeS, dAdd, dSub, dMul, dDiv, dMod, dMulI, dAddI, dCmp, dIsN, dNotN, isNone, dLenX, dLen, seqOf, dAbs, dMax2, dMin2, dInt, dTuple, dList, dCatL, dRepL, mSt, mStLen, mStCell, sSt, sSt3, drwGet, drwSet, mCh2, mCh3, mCount, dCount, Option.bind_some, Option.map_some, Option.bind_none, Option.map_none, List.getElem?_cons_zero, List.getElem?_cons_succ, List.set_cons_zero, List.set_cons_succ, List.map_cons, List.map_nil, List.cons_append, List.nil_append, List.replicate_succ, List.replicate_zero, List.length_cons, List.length_nil, if_true, if_false, reduceIte, Bool.false_eq_true, Bool.not_true, Bool.not_false, decide_true, decide_false, SD]) (lc_los (sp := sp) (i := 6) (S := [.val (SD sp), .val (GD gs), .no, .no, .no, .no, .no, .no]) (by simp)) hl
  have step1 : ∀ {r : MS}, (sSeq (sDrop (mF (cal 2 G_check_layers) (mCons (mVar 0) (mCons (mVar 1) mNil)))) (sSeq (sAsg (mF (cal 3 G_grown) (mCons (mLc (mItems (mLook 0)) (pName 6) mYes (m2 dIx (mLook 6) (mC (.int 0))) [6]) (mCons (mVar 1) (mCons (mF dLenX (mCons (mLook 0) mNil)) mNil)))) (pTup (pCons (pName 2) (pCons (pName 3) pNil)))) r)) [.val (SD sp), .val (GD gs), .no, .no, .no, .no, .no, .no] w0 =
      r [.val (SD sp), .val (GD gs), .val (yD (grow sp gs sp.length).1), .val (tD (grow sp gs sp.length).2), .no, .no, .no, .no] w0 := fun {r} => by
    rw [seq_nx (S1 := [.val (SD sp), .val (GD gs), .no, .no, .no, .no, .no, .no]) (w1 := w0) (by simp only [runM, runS, env0, flD, cal, sSeq, sIf, sRet, sRetN, sDrop, sAsg, sOwn, sFrz, frz, sPar, sPar3, sParF, sParF3, mkSl, sNx, sNo, sBk, sCt, sApp, sExt, sSetIx, sAug, sFor, sWhile, m1, m2, mC, mVar, mLook, mAnd, mOr, mNot, mIte, mB, mV, mTru, dTru, mAndV, mOrV, mNotV, mNil, mCons, mTup, mLst, mF, mFS, mItems, mRng, mRng1, mRng2, mRng3, dRng1, dRng2, dRng3, mEnum, mZip, mEnumA, mZipA, mCut, mNoP, mPt, mRev, mNeg, dNeg, dRev, dCut, mLc, mYes, pName, pTup, pTupL, pNil, pCons, wipeS, dAdd, dSub, dMul, dDiv, dMod, dMulI, dAddI, dCmp, dIsN, dNotN, isNone, dLenX, dLen, seqOf, dAbs, dMax2, dMin2, dInt, dTuple, dList, dCatL, dRepL, mSt, mStLen, mStCell, sSt, sSt3, drwGet, drwSet, mCh2, mCh3, mCount, dCount, Option.bind_some, Option.map_some, Option.bind_none, Option.map_none, List.getElem?_cons_zero, List.getElem?_cons_succ, List.set_cons_zero, List.set_cons_succ, List.map_cons, List.map_nil, List.cons_append, List.nil_append, List.replicate_succ, List.replicate_zero, List.length_cons, List.length_nil, if_true, if_false, reduceIte, Bool.false_eq_true, Bool.not_true, Bool.not_false, decide_true, decide_false, Nat.zero_add, Nat.reduceAdd, ck])]
    rw [seq_nx (S1 := [.val (SD sp), .val (GD gs), .val (yD (grow sp gs sp.length).1), .val (tD (grow sp gs sp.length).2), .no, .no, .no, .no]) (w1 := w0) (by
      unfold sAsg mF
      simp only [mCons, mNil, lc]
      simp only [SD, List.length_map, runM, runS, env0, flD, cal, sSeq, sIf, sRet, sRetN, sDrop, sAsg, sOwn, sFrz, frz, sPar, sPar3, sParF, sParF3, mkSl, sNx, sNo, sBk, sCt, sApp, sExt, sSetIx, sAug, sFor, sWhile, m1, m2, mC, mVar, mLook, mAnd, mOr, mNot, mIte, mB, mV, mTru, dTru, mAndV, mOrV, mNotV, mNil, mCons, mTup, mLst, mF, mFS, mItems, mRng, mRng1, mRng2, mRng3, dRng1, dRng2, dRng3, mEnum, mZip, mEnumA, mZipA, mCut, mNoP, mPt, mRev, mNeg, dNeg, dRev, dCut, mLc, mYes, pName, pTup, pTupL, pNil, pCons, wipeS, dAdd, dSub, dMul, dDiv, dMod, dMulI, dAddI, dCmp, dIsN, dNotN, isNone, dLenX, dLen, seqOf, dAbs, dMax2, dMin2, dInt, dTuple, dList, dCatL, dRepL, mSt, mStLen, mStCell, sSt, sSt3, drwGet, drwSet, mCh2, mCh3, mCount, dCount, Option.bind_some, Option.map_some, Option.bind_none, Option.map_none, List.getElem?_cons_zero, List.getElem?_cons_succ, List.set_cons_zero, List.set_cons_succ, List.map_cons, List.map_nil, List.cons_append, List.nil_append, List.replicate_succ, List.replicate_zero, List.length_cons, List.length_nil, if_true, if_false, reduceIte, Bool.false_eq_true, Bool.not_true, Bool.not_false, decide_true, decide_false, Nat.zero_add, Nat.reduceAdd, gr])]
  have step2 : ∀ {r : MS}, (sSeq (sAsg (mF (cal 2 G_raised_still) (mCons (mVar 2) (mCons (mVar 1) mNil))) (pName 4)) r) [.val (SD sp), .val (GD gs), .val (yD (grow sp gs sp.length).1), .val (tD (grow sp gs sp.length).2), .no, .no, .no, .no] w0 =
      r [.val (SD sp), .val (GD gs), .val (yD (grow sp gs sp.length).1), .val (tD (grow sp gs sp.length).2), .val (headD (raisedL gs (grow sp gs sp.length).1)), .no, .no, .no] w0 := fun {r} =>
    seq_nx (by simp only [runM, runS, env0, flD, cal, sSeq, sIf, sRet, sRetN, sDrop, sAsg, sOwn, sFrz, frz, sPar, sPar3, sParF, sParF3, mkSl, sNx, sNo, sBk, sCt, sApp, sExt, sSetIx, sAug, sFor, sWhile, m1, m2, mC, mVar, mLook, mAnd, mOr, mNot, mIte, mB, mV, mTru, dTru, mAndV, mOrV, mNotV, mNil, mCons, mTup, mLst, mF, mFS, mItems, mRng, mRng1, mRng2, mRng3, dRng1, dRng2, dRng3, mEnum, mZip, mEnumA, mZipA, mCut, mNoP, mPt, mRev, mNeg, dNeg, dRev, dCut, mLc, mYes, pName, pTup, pTupL, pNil, pCons, wipeS, dAdd, dSub, dMul, dDiv, dMod, dMulI, dAddI, dCmp, dIsN, dNotN, isNone, dLenX, dLen, seqOf, dAbs, dMax2, dMin2, dInt, dTuple, dList, dCatL, dRepL, mSt, mStLen, mStCell, sSt, sSt3, drwGet, drwSet, mCh2, mCh3, mCount, dCount, Option.bind_some, Option.map_some, Option.bind_none, Option.map_none, List.getElem?_cons_zero, List.getElem?_cons_succ, List.set_cons_zero, List.set_cons_succ, List.map_cons, List.map_nil, List.cons_append, List.nil_append, List.replicate_succ, List.replicate_zero, List.length_cons, List.length_nil, if_true, if_false, reduceIte, Bool.false_eq_true, Bool.not_true, Bool.not_false, decide_true, decide_false, Nat.zero_add, Nat.reduceAdd, rs])
  have l2 : (2 : Nat) ≤ LB := by decide
  by_cases hR : Raised gs (least sp gs)
  · have hne := (raised_iff _ _).mp hR
    obtain ⟨k, kr, hL⟩ : ∃ k kr, raisedL gs (grow sp gs sp.length).1 = k :: kr := by
      cases e : raisedL gs (grow sp gs sp.length).1 with
      | nil => exact absurd e hne
      | cons k kr => exact ⟨k, kr, rfl⟩
    obtain ⟨c, u, c1, c2, c3, c4⟩ := ev_ring_from h (raised_all h (Nat.le_refl _) hR)
    have I := grow_bi h (sp.length + 1)
    refine ⟨_, ?_, .ring (c := c) (u := u) hR c1 (by omega) (I.way c3) (I.cyc u c c1 c3)⟩
    unfold G_judge_layers
    refine runM_rt [.val (SD sp), .val (GD gs), .no, .no, .no, .no, .no, .no] rfl ?_
    unfold m_judge_layers
    rw [step1, step2, hL, seq_rt (w1 := w0) (S1 := [.val (SD sp), .val (GD gs), .val (yD (grow sp gs sp.length).1), .val (tD (grow sp gs sp.length).2), .val (headD (k :: kr)), .no, .no, .no]) (d := .tuple [.str "ring", .tuple (nD c.reverse)]) (by
      rw [if_yes (w1 := w0) (by simp only [runM, runS, env0, flD, cal, sSeq, sIf, sRet, sRetN, sDrop, sAsg, sOwn, sFrz, frz, sPar, sPar3, sParF, sParF3, mkSl, sNx, sNo, sBk, sCt, sApp, sExt, sSetIx, sAug, sFor, sWhile, m1, m2, mC, mVar, mLook, mAnd, mOr, mNot, mIte, mB, mV, mTru, dTru, mAndV, mOrV, mNotV, mNil, mCons, mTup, mLst, mF, mFS, mItems, mRng, mRng1, mRng2, mRng3, dRng1, dRng2, dRng3, mEnum, mZip, mEnumA, mZipA, mCut, mNoP, mPt, mRev, mNeg, dNeg, dRev, dCut, mLc, mYes, pName, pTup, pTupL, pNil, pCons, wipeS, dAdd, dSub, dMul, dDiv, dMod, dMulI, dAddI, dCmp, dIsN, dNotN, isNone, dLenX, dLen, seqOf, dAbs, dMax2, dMin2, dInt, dTuple, dList, dCatL, dRepL, mSt, mStLen, mStCell, sSt, sSt3, drwGet, drwSet, mCh2, mCh3, mCount, dCount, Option.bind_some, Option.map_some, Option.bind_none, Option.map_none, List.getElem?_cons_zero, List.getElem?_cons_succ, List.set_cons_zero, List.set_cons_succ, List.map_cons, List.map_nil, List.cons_append, List.nil_append, List.replicate_succ, List.replicate_zero, List.length_cons, List.length_nil, if_true, if_false, reduceIte, Bool.false_eq_true, Bool.not_true, Bool.not_false, decide_true, decide_false, headD])]
      simp only [runM, runS, env0, flD, cal, sSeq, sIf, sRet, sRetN, sDrop, sAsg, sOwn, sFrz, frz, sPar, sPar3, sParF, sParF3, mkSl, sNx, sNo, sBk, sCt, sApp, sExt, sSetIx, sAug, sFor, sWhile, m1, m2, mC, mVar, mLook, mAnd, mOr, mNot, mIte, mB, mV, mTru, dTru, mAndV, mOrV, mNotV, mNil, mCons, mTup, mLst, mF, mFS, mItems, mRng, mRng1, mRng2, mRng3, dRng1, dRng2, dRng3, mEnum, mZip, mEnumA, mZipA, mCut, mNoP, mPt, mRev, mNeg, dNeg, dRev, dCut, mLc, mYes, pName, pTup, pTupL, pNil, pCons, wipeS, dAdd, dSub, dMul, dDiv, dMod, dMulI, dAddI, dCmp, dIsN, dNotN, isNone, dLenX, dLen, seqOf, dAbs, dMax2, dMin2, dInt, dTuple, dList, dCatL, dRepL, mSt, mStLen, mStCell, sSt, sSt3, drwGet, drwSet, mCh2, mCh3, mCount, dCount, Option.bind_some, Option.map_some, Option.bind_none, Option.map_none, List.getElem?_cons_zero, List.getElem?_cons_succ, List.set_cons_zero, List.set_cons_succ, List.map_cons, List.map_nil, List.cons_append, List.nil_append, List.replicate_succ, List.replicate_zero, List.length_cons, List.length_nil, if_true, if_false, reduceIte, Bool.false_eq_true, Bool.not_true, Bool.not_false, decide_true, decide_false, Nat.zero_add, Nat.reduceAdd, c4, if_pos l2])]
    exact ⟨_, _, rfl⟩
  · have hL : raisedL gs (grow sp gs sp.length).1 = [] := Classical.byContradiction fun z => hR ((raised_iff _ _).mpr z)
    have late := lc_late (sp := sp) (gs := gs) (y := (grow sp gs sp.length).1) (t := tD (grow sp gs sp.length).2) (grow_len _)
    have hll : (nD (lateL sp (grow sp gs sp.length).1)).length ≤ LB := by
      rw [nD_len]
      have := List.length_filter_le (fun v => decide (A (grow sp gs sp.length).1 v > shi sp v)) (List.range sp.length)
      rw [List.length_range] at this
      exact lb_of (by unfold lateL; omega)
    have late' := mLc_of (mi := mEnumA (mLook 0)) (vs := [7, 6]) (S := [.val (SD sp), .val (GD gs), .val (yD (grow sp gs sp.length).1), .val (tD (grow sp gs sp.length).2), .val .none, .no, .no, .no]) (w := w0) (w1 := w0) (by simp only [runM, runS, env0, flD, cal, sSeq, sIf, sRet, sRetN, sDrop, sAsg, sOwn, sFrz, frz, sPar, sPar3, sParF, sParF3, mkSl, sNx, sNo, sBk, sCt, sApp, sExt, sSetIx, sAug, sFor, sWhile, m1, m2, mC, mVar, mLook, mAnd, mOr, mNot, mIte, mB, mV, mTru, dTru, mAndV, mOrV, mNotV, mNil, mCons, mTup, mLst, mF, mFS, mItems, mRng, mRng1, mRng2, mRng3, dRng1, dRng2, dRng3, mEnum, mZip, mEnumA, mZipA, mCut, mNoP, mPt, mRev, mNeg, dNeg, dRev, dCut, mLc, mYes, pName, pTup, pTupL, pNil, pCons, wipeS, dAdd, dSub, dMul, dDiv, dMod, dMulI, dAddI, dCmp, dIsN, dNotN, isNone, dLenX, dLen, seqOf, dAbs, dMax2, dMin2, dInt, dTuple, dList, dCatL, dRepL, mSt, mStLen, mStCell, sSt, sSt3, drwGet, drwSet, mCh2, mCh3, mCount, dCount, Option.bind_some, Option.map_some, Option.bind_none, Option.map_none, List.getElem?_cons_zero, List.getElem?_cons_succ, List.set_cons_zero, List.set_cons_succ, List.map_cons, List.map_nil, List.cons_append, List.nil_append, List.replicate_succ, List.replicate_zero, List.length_cons, List.length_nil, if_true, if_false, reduceIte, Bool.false_eq_true, Bool.not_true, Bool.not_false, decide_true, decide_false, SD]) late hll
    have step3 : ∀ {r : MS}, (sSeq (sIf (mB (m2 dNotN (mLook 4) (mC .none))) (sRet (mTup (mCons (mC (.str "ring")) (mCons (mF (cal 2 G_ring_from) (mCons (mVar 0) (mCons (mVar 1) mNil))) mNil)))) sNx)
        (sSeq (sAsg (mLc (mEnumA (mLook 0)) (pTup (pCons (pName 7) (pCons (pName 6) pNil))) (mB (m2 dGt (m2 dIx (mLook 2) (mLook 7)) (m2 dIx (mLook 6) (mC (.int 1))))) (mVar 7) [7, 6]) (pName 5)) r)) [.val (SD sp), .val (GD gs), .val (yD (grow sp gs sp.length).1), .val (tD (grow sp gs sp.length).2), .val (headD []), .no, .no, .no] w0 =
        r [.val (SD sp), .val (GD gs), .val (yD (grow sp gs sp.length).1), .val (tD (grow sp gs sp.length).2), .val .none, .val (.list (nD (lateL sp (grow sp gs sp.length).1))), .no, .no] w0 := fun {r} => by
      rw [seq_nx (if_no (w1 := w0) (by simp only [runM, runS, env0, flD, cal, sSeq, sIf, sRet, sRetN, sDrop, sAsg, sOwn, sFrz, frz, sPar, sPar3, sParF, sParF3, mkSl, sNx, sNo, sBk, sCt, sApp, sExt, sSetIx, sAug, sFor, sWhile, m1, m2, mC, mVar, mLook, mAnd, mOr, mNot, mIte, mB, mV, mTru, dTru, mAndV, mOrV, mNotV, mNil, mCons, mTup, mLst, mF, mFS, mItems, mRng, mRng1, mRng2, mRng3, dRng1, dRng2, dRng3, mEnum, mZip, mEnumA, mZipA, mCut, mNoP, mPt, mRev, mNeg, dNeg, dRev, dCut, mLc, mYes, pName, pTup, pTupL, pNil, pCons, wipeS, dAdd, dSub, dMul, dDiv, dMod, dMulI, dAddI, dCmp, dIsN, dNotN, isNone, dLenX, dLen, seqOf, dAbs, dMax2, dMin2, dInt, dTuple, dList, dCatL, dRepL, mSt, mStLen, mStCell, sSt, sSt3, drwGet, drwSet, mCh2, mCh3, mCount, dCount, Option.bind_some, Option.map_some, Option.bind_none, Option.map_none, List.getElem?_cons_zero, List.getElem?_cons_succ, List.set_cons_zero, List.set_cons_succ, List.map_cons, List.map_nil, List.cons_append, List.nil_append, List.replicate_succ, List.replicate_zero, List.length_cons, List.length_nil, if_true, if_false, reduceIte, Bool.false_eq_true, Bool.not_true, Bool.not_false, decide_true, decide_false, headD]))]
      show (sSeq _ r) [.val (SD sp), .val (GD gs), .val (yD (grow sp gs sp.length).1), .val (tD (grow sp gs sp.length).2), .val .none, .no, .no, .no] w0 = _
      rw [seq_nx (S1 := [.val (SD sp), .val (GD gs), .val (yD (grow sp gs sp.length).1), .val (tD (grow sp gs sp.length).2), .val .none, .val (.list (nD (lateL sp (grow sp gs sp.length).1))), .no, .no]) (w1 := w0) (by
        unfold sAsg
        rw [late']
        rfl)]
    cases hl2 : lateL sp (grow sp gs sp.length).1 with
    | nil =>
      have hs : Sol sp gs (least sp gs) := by
        rcases late_or h hR with q | ⟨v, hv, q⟩
        · exact q
        · exfalso
          have : v ∈ lateL sp (grow sp gs sp.length).1 := List.mem_filter.mpr ⟨List.mem_range.mpr hv, decide_eq_true q⟩
          rw [hl2] at this
          cases this
      refine ⟨_, ?_, .years hs⟩
      unfold G_judge_layers
      refine runM_rt [.val (SD sp), .val (GD gs), .no, .no, .no, .no, .no, .no] rfl ?_
      unfold m_judge_layers
      rw [step1, step2, hL, step3, hl2, seq_nx (if_no (w1 := w0) (by rfl))]
      simp only [runM, runS, env0, flD, cal, sSeq, sIf, sRet, sRetN, sDrop, sAsg, sOwn, sFrz, frz, sPar, sPar3, sParF, sParF3, mkSl, sNx, sNo, sBk, sCt, sApp, sExt, sSetIx, sAug, sFor, sWhile, m1, m2, mC, mVar, mLook, mAnd, mOr, mNot, mIte, mB, mV, mTru, dTru, mAndV, mOrV, mNotV, mNil, mCons, mTup, mLst, mF, mFS, mItems, mRng, mRng1, mRng2, mRng3, dRng1, dRng2, dRng3, mEnum, mZip, mEnumA, mZipA, mCut, mNoP, mPt, mRev, mNeg, dNeg, dRev, dCut, mLc, mYes, pName, pTup, pTupL, pNil, pCons, wipeS, dAdd, dSub, dMul, dDiv, dMod, dMulI, dAddI, dCmp, dIsN, dNotN, isNone, dLenX, dLen, seqOf, dAbs, dMax2, dMin2, dInt, dTuple, dList, dCatL, dRepL, mSt, mStLen, mStCell, sSt, sSt3, drwGet, drwSet, mCh2, mCh3, mCount, dCount, Option.bind_some, Option.map_some, Option.bind_none, Option.map_none, List.getElem?_cons_zero, List.getElem?_cons_succ, List.set_cons_zero, List.set_cons_succ, List.map_cons, List.map_nil, List.cons_append, List.nil_append, List.replicate_succ, List.replicate_zero, List.length_cons, List.length_nil, if_true, if_false, reduceIte, Bool.false_eq_true, Bool.not_true, Bool.not_false, decide_true, decide_false, Nat.zero_add, Nat.reduceAdd, yD, if_pos l2]
      exact ⟨_, _, rfl⟩
    | cons v vr =>
      have hv : v ∈ lateL sp (grow sp gs sp.length).1 := by rw [hl2]; exact List.mem_cons_self
      obtain ⟨hv1, hv2⟩ := List.mem_filter.mp hv
      have hv1 := List.mem_range.mp hv1
      have hv2 : shi sp v < A (least sp gs) v := of_decide_eq_true hv2
      obtain ⟨ks, u, k1, k2, k3, k4⟩ := late_way h hR v
      have hne : ks ≠ [] := fun z => by
        subst z
        cases k2
        have := slo_shi h hv1
        simp [W] at k4
        omega
      have td := grow_told h sp.length
      have wt' := ev_way_to td hv1 k2 k3 (by omega)
      refine ⟨_, ?_, .late (ks := ks) (v := v) (u := u) hR hv1 hv2 hne (by omega) ((grow_bi h sp.length).way k2) (by omega)⟩
      unfold G_judge_layers
      refine runM_rt [.val (SD sp), .val (GD gs), .no, .no, .no, .no, .no, .no] rfl ?_
      unfold m_judge_layers
      rw [step1, step2, hL, step3, hl2, seq_rt (w1 := w0) (S1 := [.val (SD sp), .val (GD gs), .val (yD (grow sp gs sp.length).1), .val (tD (grow sp gs sp.length).2), .val .none, .val (.list (nD (v :: vr))), .no, .no]) (d := .tuple [.str "late", .tuple (nD ks.reverse)]) (by
        rw [if_yes (w1 := w0) (by rfl)]
        simp only [runM, runS, env0, flD, cal, sSeq, sIf, sRet, sRetN, sDrop, sAsg, sOwn, sFrz, frz, sPar, sPar3, sParF, sParF3, mkSl, sNx, sNo, sBk, sCt, sApp, sExt, sSetIx, sAug, sFor, sWhile, m1, m2, mC, mVar, mLook, mAnd, mOr, mNot, mIte, mB, mV, mTru, dTru, mAndV, mOrV, mNotV, mNil, mCons, mTup, mLst, mF, mFS, mItems, mRng, mRng1, mRng2, mRng3, dRng1, dRng2, dRng3, mEnum, mZip, mEnumA, mZipA, mCut, mNoP, mPt, mRev, mNeg, dNeg, dRev, dCut, mLc, mYes, pName, pTup, pTupL, pNil, pCons, wipeS, dAdd, dSub, dMul, dDiv, dMod, dMulI, dAddI, dCmp, dIsN, dNotN, isNone, dLenX, dLen, seqOf, dAbs, dMax2, dMin2, dInt, dTuple, dList, dCatL, dRepL, mSt, mStLen, mStCell, sSt, sSt3, drwGet, drwSet, mCh2, mCh3, mCount, dCount, Option.bind_some, Option.map_some, Option.bind_none, Option.map_none, List.getElem?_cons_zero, List.getElem?_cons_succ, List.set_cons_zero, List.set_cons_succ, List.map_cons, List.map_nil, List.cons_append, List.nil_append, List.replicate_succ, List.replicate_zero, List.length_cons, List.length_nil, if_true, if_false, reduceIte, Bool.false_eq_true, Bool.not_true, Bool.not_false, decide_true, decide_false, Nat.zero_add, Nat.reduceAdd, nD, List.map_cons, ix_hd] at wt' ⊢
        simp only [runM, runS, env0, flD, cal, sSeq, sIf, sRet, sRetN, sDrop, sAsg, sOwn, sFrz, frz, sPar, sPar3, sParF, sParF3, mkSl, sNx, sNo, sBk, sCt, sApp, sExt, sSetIx, sAug, sFor, sWhile, m1, m2, mC, mVar, mLook, mAnd, mOr, mNot, mIte, mB, mV, mTru, dTru, mAndV, mOrV, mNotV, mNil, mCons, mTup, mLst, mF, mFS, mItems, mRng, mRng1, mRng2, mRng3, dRng1, dRng2, dRng3, mEnum, mZip, mEnumA, mZipA, mCut, mNoP, mPt, mRev, mNeg, dNeg, dRev, dCut, mLc, mYes, pName, pTup, pTupL, pNil, pCons, wipeS, dAdd, dSub, dMul, dDiv, dMod, dMulI, dAddI, dCmp, dIsN, dNotN, isNone, dLenX, dLen, seqOf, dAbs, dMax2, dMin2, dInt, dTuple, dList, dCatL, dRepL, mSt, mStLen, mStCell, sSt, sSt3, drwGet, drwSet, mCh2, mCh3, mCount, dCount, Option.bind_some, Option.map_some, Option.bind_none, Option.map_none, List.getElem?_cons_zero, List.getElem?_cons_succ, List.set_cons_zero, List.set_cons_succ, List.map_cons, List.map_nil, List.cons_append, List.nil_append, List.replicate_succ, List.replicate_zero, List.length_cons, List.length_nil, if_true, if_false, reduceIte, Bool.false_eq_true, Bool.not_true, Bool.not_false, decide_true, decide_false, wt', if_pos l2])]
      exact ⟨_, _, rfl⟩
end K64

set_option Elab.async false
set_option linter.all false
set_option maxRecDepth 100000
set_option maxHeartbeats 4000000
namespace K64
open PySem PySem.Spec PyProof.Rows L2 Mini
/-- gaps one behind the other, from u on to v -/
def Fwd (gs : List Gap) : Nat → List Nat → Nat → Prop
  | u, [], v => u = v
  | u, k :: ks, v => k < gs.length ∧ one gs k = u ∧ Fwd gs (oth gs k) ks v
theorem fwd_snoc {gs : List Gap} : ∀ {ws : List Nat} {u x k : Nat}, Fwd gs u ws x → k < gs.length → one gs k = x → Fwd gs u (ws ++ [k]) (oth gs k)
  | [], _, _, _, h, hk, e => by cases h; exact ⟨hk, e, rfl⟩
  | _ :: _, _, _, _, h, hk, e => ⟨h.1, h.2.1, fwd_snoc h.2.2 hk e⟩
theorem way_fwd {gs : List Gap} : ∀ {ks : List Nat} {v u : Nat}, Way gs v ks u → Fwd gs u ks.reverse v
  | [], _, _, h => h.symm
  | k :: ks, v, u, h => by
    rw [List.reverse_cons, ← h.2.1]
    exact fwd_snoc (way_fwd h.2.2) h.1 rfl
theorem fwd_lt {gs : List Gap} : ∀ {ws : List Nat} {u v : Nat}, Fwd gs u ws v → ∀ k ∈ ws, k < gs.length
  | [], _, _, _, k, hk => by cases hk
  | w :: ws, _, _, h, k, hk => by
    rcases List.mem_cons.mp hk with e | e
    · rw [e]; exact h.1
    · exact fwd_lt h.2.2 k e
theorem fwd_zip {gs : List Gap} : ∀ {ws : List Nat} {u v : Nat}, Fwd gs u ws v → ∀ p ∈ ws.zip ws.tail, oth gs p.1 = one gs p.2
  | [], _, _, _, p, hp => by cases hp
  | [_], _, _, _, p, hp => by simp at hp
  | a :: b :: ws, u, v, h, p, hp => by
    rw [List.tail_cons, List.zip_cons_cons] at hp
    rcases List.mem_cons.mp hp with e | e
    · rw [e]; exact h.2.2.2.1.symm
    · exact fwd_zip h.2.2 p e
theorem fwd_last {gs : List Gap} : ∀ {ws : List Nat} {u v k : Nat}, Fwd gs u (ws ++ [k]) v → oth gs k = v
  | [], _, _, _, h => h.2.2
  | _ :: _, _, _, _, h => fwd_last h.2.2
theorem zipD_map {α β : Type} (f : α → PyData) (g : β → PyData) : ∀ (xs : List α) (ys : List β), zipD (xs.map f) (ys.map g) = (xs.zip ys).map fun p => .tuple [f p.1, g p.2]
  | [], _ => rfl
  | _ :: _, [] => rfl
  | x :: xs, y :: ys => by rw [List.map_cons, List.map_cons, zipD, zipD_map f g xs ys]; rfl
theorem cut_tail (x : PyData) (xs : List PyData) : Mini.cutD (x :: xs) (some 1) none = xs := by
  unfold Mini.cutD
  rw [HT.sIx_none, show (1 : Int) = ((1 : Nat) : Int) from rfl, HT.sIx_nat, Nat.min_eq_left (by simp), List.drop_one, List.tail_cons, List.take_of_length_le (by simp)]
theorem ev_is_way {gs : List Gap} {ws : List Nat} {u v : Nat} (h : Fwd gs u ws v) (hne : ws ≠ []) (hl : ws.length ≤ 100) : G_is_way [.tuple (nD ws), GD gs] = some (.bool true) := by
  have lw : (ws.map fun _ : Nat => PyData.bool true).length ≤ LB := by rw [List.length_map]; exact lb_of (by omega)
  obtain ⟨w, wr, rfl⟩ : ∃ a r, ws = a :: r := by
    cases ws with
    | nil => exact absurd rfl hne
    | cons a r => exact ⟨a, r, rfl⟩
  have lc1 := mLc_of (mi := mItems (mLook 0)) (p := pName 2) (t := mYes) (e := mAndV (mF (cal 1 G_is_integer) (mCons (mVar 2) mNil)) (mCh2 dLe dLt (mC (.int 0)) (mLook 2) (mF dLenX (mCons (mLook 1) mNil)))) (vs := [2]) (S := [.val (.tuple (nD (w :: wr))), .val (GD gs), .no, .no, .no]) (w := w0) (w1 := w0)
    (by simp only [runM, runS, env0, flD, cal, sSeq, sIf, sRet, sRetN, sDrop, sAsg, sOwn, sFrz, frz, sPar, sPar3, sParF, sParF3, mkSl, sNx, sNo, sBk, sCt, sApp, sExt, sSetIx, sAug, sFor, sWhile, m1, m2, mC, mVar, mLook, mAnd, mOr, mNot, mIte, mB, mV, mTru, dTru, mAndV, mOrV, mNotV, mNil, mCons, mTup, mLst, mF, mFS, mItems, mRng, mRng1, mRng2, mRng3, dRng1, dRng2, dRng3, mEnum, mZip, mEnumA, mZipA, mCut, mNoP, mPt, mRev, mNeg, dNeg, dRev, dCut, mLc, mYes, pName, pTup, pTupL, pNil, pCons, wipeS, dAdd, dSub, dMul, dDiv, dMod, dMulI, dAddI, dCmp, dIsN, dNotN, isNone, dLenX, dLen, seqOf, dAbs, dMax2, dMin2, dInt, dTuple, dList, dCatL, dRepL, mSt, mStLen, mStCell, sSt, sSt3, drwGet, drwSet, mCh2, mCh3, mCount, dCount, Option.bind_some, Option.map_some, Option.bind_none, Option.map_none, List.getElem?_cons_zero, List.getElem?_cons_succ, List.set_cons_zero, List.set_cons_succ, List.map_cons, List.map_nil, List.cons_append, List.nil_append, List.replicate_succ, List.replicate_zero, List.length_cons, List.length_nil, if_true, if_false, reduceIte, Bool.false_eq_true, Bool.not_true, Bool.not_false, decide_true, decide_false, nD, List.map_cons]) (lc_as (g := fun k : Nat => .int ((k : Nat) : Int)) (f := fun _ => .bool true) (ks := w :: wr) fun k hk => ⟨[.val (.tuple (nD (w :: wr))), .val (GD gs), .val (.int ((k : Nat) : Int)), .no, .no], rfl, by
      have hk := fwd_lt h k hk
      have c1 : (0 : Int) ≤ (k : Nat) := by omega
      have c2 : ((k : Nat) : Int) < gs.length := by omega
      simp only [runM, runS, env0, flD, cal, sSeq, sIf, sRet, sRetN, sDrop, sAsg, sOwn, sFrz, frz, sPar, sPar3, sParF, sParF3, mkSl, sNx, sNo, sBk, sCt, sApp, sExt, sSetIx, sAug, sFor, sWhile, m1, m2, mC, mVar, mLook, mAnd, mOr, mNot, mIte, mB, mV, mTru, dTru, mAndV, mOrV, mNotV, mNil, mCons, mTup, mLst, mF, mFS, mItems, mRng, mRng1, mRng2, mRng3, dRng1, dRng2, dRng3, mEnum, mZip, mEnumA, mZipA, mCut, mNoP, mPt, mRev, mNeg, dNeg, dRev, dCut, mLc, mYes, pName, pTup, pTupL, pNil, pCons, wipeS, dAdd, dSub, dMul, dDiv, dMod, dMulI, dAddI, dCmp, dIsN, dNotN, isNone, dLenX, dLen, seqOf, dAbs, dMax2, dMin2, dInt, dTuple, dList, dCatL, dRepL, mSt, mStLen, mStCell, sSt, sSt3, drwGet, drwSet, mCh2, mCh3, mCount, dCount, Option.bind_some, Option.map_some, Option.bind_none, Option.map_none, List.getElem?_cons_zero, List.getElem?_cons_succ, List.set_cons_zero, List.set_cons_succ, List.map_cons, List.map_nil, List.cons_append, List.nil_append, List.replicate_succ, List.replicate_zero, List.length_cons, List.length_nil, if_true, if_false, reduceIte, Bool.false_eq_true, Bool.not_true, Bool.not_false, decide_true, decide_false, GD, List.length_map, ev_is_integer, Nat.zero_add, Nat.reduceAdd, c1, c2]⟩) lw
  have da := dAll_true (f := fun _ : Nat => PyData.bool true) (w :: wr) fun _ _ => rfl
  have lc2 : mLc (mZipA (mLook 0) (mCut (mLook 0) (mPt (mC (.int 1))) mNoP)) (pTup (pCons (pName 3) (pCons (pName 4) pNil))) (mB (m2 dNe (m2 dIx (m2 dIx (mLook 1) (mLook 3)) (mC (.int 1))) (m2 dIx (m2 dIx (mLook 1) (mLook 4)) (mC (.int 0))))) (mC (.int 1)) [3, 4] [.val (.tuple (nD (w :: wr))), .val (GD gs), .no, .no, .no] w0 = some (.list [], w0) := by
    refine mLc_of (w1 := w0) (ds := ((w :: wr).zip wr).map fun p => .tuple [.int ((p.1 : Nat) : Int), .int ((p.2 : Nat) : Int)]) (by
      simp only [runM, runS, env0, flD, cal, sSeq, sIf, sRet, sRetN, sDrop, sAsg, sOwn, sFrz, frz, sPar, sPar3, sParF, sParF3, mkSl, sNx, sNo, sBk, sCt, sApp, sExt, sSetIx, sAug, sFor, sWhile, m1, m2, mC, mVar, mLook, mAnd, mOr, mNot, mIte, mB, mV, mTru, dTru, mAndV, mOrV, mNotV, mNil, mCons, mTup, mLst, mF, mFS, mItems, mRng, mRng1, mRng2, mRng3, dRng1, dRng2, dRng3, mEnum, mZip, mEnumA, mZipA, mCut, mNoP, mPt, mRev, mNeg, dNeg, dRev, dCut, mLc, mYes, pName, pTup, pTupL, pNil, pCons, wipeS, dAdd, dSub, dMul, dDiv, dMod, dMulI, dAddI, dCmp, dIsN, dNotN, isNone, dLenX, dLen, seqOf, dAbs, dMax2, dMin2, dInt, dTuple, dList, dCatL, dRepL, mSt, mStLen, mStCell, sSt, sSt3, drwGet, drwSet, mCh2, mCh3, mCount, dCount, Option.bind_some, Option.map_some, Option.bind_none, Option.map_none, List.getElem?_cons_zero, List.getElem?_cons_succ, List.set_cons_zero, List.set_cons_succ, List.map_cons, List.map_nil, List.cons_append, List.nil_append, List.replicate_succ, List.replicate_zero, List.length_cons, List.length_nil, if_true, if_false, reduceIte, Bool.false_eq_true, Bool.not_true, Bool.not_false, decide_true, decide_false, nD, List.map_cons, cut_tail]
      show some (zipD ((w :: wr).map fun k : Nat => PyData.int ((k : Nat) : Int)) (wr.map fun k : Nat => PyData.int ((k : Nat) : Int)), w0) = _
      rw [zipD_map]) ?_ (by show 0 ≤ 1000000; omega)
    have q := lc_asF (p := (pTup (pCons (pName 3) (pCons (pName 4) pNil)))) (t := (mB (m2 dNe (m2 dIx (m2 dIx (mLook 1) (mLook 3)) (mC (.int 1))) (m2 dIx (m2 dIx (mLook 1) (mLook 4)) (mC (.int 0)))))) (e := mC (.int 1)) (S := [.val (.tuple (nD (w :: wr))), .val (GD gs), .no, .no, .no]) (w := w0)
      (g := fun p : Nat × Nat => .tuple [.int ((p.1 : Nat) : Int), .int ((p.2 : Nat) : Int)]) (f := fun _ => .int 1) (c := fun _ => false) (ks := (w :: wr).zip wr) fun p hp => by
        have e := fwd_zip h p hp
        have lt1 := fwd_lt h p.1 (List.of_mem_zip hp).1
        have lt2 := fwd_lt h p.2 (List.mem_cons_of_mem _ (List.of_mem_zip hp).2)
        have g1 := ix_g lt1
        have g2 := ix_g lt2
        have ne := dNe_int ((oth gs p.1 : Nat) : Int) ((one gs p.2 : Nat) : Int)
        rw [e] at ne
        refine ⟨[.val (.tuple (nD (w :: wr))), .val (GD gs), .no, .val (.int ((p.1 : Nat) : Int)), .val (.int ((p.2 : Nat) : Int))], rfl, ?_, fun z => by cases z⟩
        simp [runM, runS, env0, flD, cal, sSeq, sIf, sRet, sRetN, sDrop, sAsg, sOwn, sFrz, frz, sPar, sPar3, sParF, sParF3, mkSl, sNx, sNo, sBk, sCt, sApp, sExt, sSetIx, sAug, sFor, sWhile, m1, m2, mC, mVar, mLook, mAnd, mOr, mNot, mIte, mB, mV, mTru, dTru, mAndV, mOrV, mNotV, mNil, mCons, mTup, mLst, mF, mFS, mItems, mRng, mRng1, mRng2, mRng3, dRng1, dRng2, dRng3, mEnum, mZip, mEnumA, mZipA, mCut, mNoP, mPt, mRev, mNeg, dNeg, dRev, dCut, mLc, mYes, pName, pTup, pTupL, pNil, pCons, wipeS, dAdd, dSub, dMul, dDiv, dMod, dMulI, dAddI, dCmp, dIsN, dNotN, isNone, dLenX, dLen, seqOf, dAbs, dMax2, dMin2, dInt, dTuple, dList, dCatL, dRepL, mSt, mStLen, mStCell, sSt, sSt3, drwGet, drwSet, mCh2, mCh3, mCount, dCount, Option.bind_some, Option.map_some, Option.bind_none, Option.map_none, List.getElem?_cons_zero, List.getElem?_cons_succ, List.set_cons_zero, List.set_cons_succ, List.map_cons, List.map_nil, List.cons_append, List.nil_append, List.replicate_succ, List.replicate_zero, List.length_cons, List.length_nil, if_true, if_false, reduceIte, Bool.false_eq_true, Bool.not_true, Bool.not_false, decide_true, decide_false, g1, g2, gD, ix_tup3_0, ix_tup3_1, e, ne]
    rw [List.filter_eq_nil_iff.mpr (by simp)] at q
    exact q
  unfold G_is_way
  refine runM_rt [.val (.tuple (nD (w :: wr))), .val (GD gs), .no, .no, .no] rfl ?_
  unfold m_is_way
  rw [seq_nx (if_no (w1 := w0) (by simp [runM, runS, env0, flD, cal, sSeq, sIf, sRet, sRetN, sDrop, sAsg, sOwn, sFrz, frz, sPar, sPar3, sParF, sParF3, mkSl, sNx, sNo, sBk, sCt, sApp, sExt, sSetIx, sAug, sFor, sWhile, m1, m2, mC, mVar, mLook, mAnd, mOr, mNot, mIte, mB, mV, mTru, dTru, mAndV, mOrV, mNotV, mNil, mCons, mTup, mLst, mF, mFS, mItems, mRng, mRng1, mRng2, mRng3, dRng1, dRng2, dRng3, mEnum, mZip, mEnumA, mZipA, mCut, mNoP, mPt, mRev, mNeg, dNeg, dRev, dCut, mLc, mYes, pName, pTup, pTupL, pNil, pCons, wipeS, dAdd, dSub, dMul, dDiv, dMod, dMulI, dAddI, dCmp, dIsN, dNotN, isNone, dLenX, dLen, seqOf, dAbs, dMax2, dMin2, dInt, dTuple, dList, dCatL, dRepL, mSt, mStLen, mStCell, sSt, sSt3, drwGet, drwSet, mCh2, mCh3, mCount, dCount, Option.bind_some, Option.map_some, Option.bind_none, Option.map_none, List.getElem?_cons_zero, List.getElem?_cons_succ, List.set_cons_zero, List.set_cons_succ, List.map_cons, List.map_nil, List.cons_append, List.nil_append, List.replicate_succ, List.replicate_zero, List.length_cons, List.length_nil, if_true, if_false, reduceIte, Bool.false_eq_true, Bool.not_true, Bool.not_false, decide_true, decide_false, mIsi, isi_tup, nD]))]
  rw [seq_nx (if_no (mNot_of (mTru_of (mF1_of lc1 da) rfl)))]
  have fin := mNot_of (mTru_of lc2 rfl)
  unfold sRet mV
  rw [fin]
  exact ⟨_, _, rfl⟩
theorem dSum_map {α : Type} (f : α → Int) (ks : List α) : dSum [.list (ks.map fun k => .int (f k))] = some (.int (ks.map f).sum) := by
  have e : (ks.map fun k => PyData.int (f k)) = (ks.map f).map .int := by rw [List.map_map]; rfl
  rw [e]
  show (intsOf _).map (fun ns => PyData.int ns.sum) = _
  rw [intsOf_map]; rfl
theorem lc_wts {gs : List Gap} {ws : List Nat} {s0 : Sl} (hlt : ∀ k ∈ ws, k < gs.length) (hl : ws.length ≤ 100) : mF dSum (mCons (mLc (mItems (mLook 2)) (pName 3) mYes (m2 dIx (m2 dIx (mLook 1) (mLook 3)) (mC (.int 2))) [3]) mNil) [s0, .val (GD gs), .val (.tuple (nD ws)), .no] w0 = some (.int (W gs ws), w0) := by
  have lc := mLc_of (mi := mItems (mLook 2)) (p := pName 3) (t := mYes) (e := m2 dIx (m2 dIx (mLook 1) (mLook 3)) (mC (.int 2))) (vs := [3]) (S := [s0, .val (GD gs), .val (.tuple (nD ws)), .no]) (w := w0) (w1 := w0) (by simp only [runM, runS, env0, flD, cal, sSeq, sIf, sRet, sRetN, sDrop, sAsg, sOwn, sFrz, frz, sPar, sPar3, sParF, sParF3, mkSl, sNx, sNo, sBk, sCt, sApp, sExt, sSetIx, sAug, sFor, sWhile, m1, m2, mC, mVar, mLook, mAnd, mOr, mNot, mIte, mB, mV, mTru, dTru, mAndV, mOrV, mNotV, mNil, mCons, mTup, mLst, mF, mFS, mItems, mRng, mRng1, mRng2, mRng3, dRng1, dRng2, dRng3, mEnum, mZip, mEnumA, mZipA, mCut, mNoP, mPt, mRev, mNeg, dNeg, dRev, dCut, mLc, mYes, pName, pTup, pTupL, pNil, pCons, wipeS, dAdd, dSub, dMul, dDiv, dMod, dMulI, dAddI, dCmp, dIsN, dNotN, isNone, dLenX, dLen, seqOf, dAbs, dMax2, dMin2, dInt, dTuple, dList, dCatL, dRepL, mSt, mStLen, mStCell, sSt, sSt3, drwGet, drwSet, mCh2, mCh3, mCount, dCount, Option.bind_some, Option.map_some, Option.bind_none, Option.map_none, List.getElem?_cons_zero, List.getElem?_cons_succ, List.set_cons_zero, List.set_cons_succ, List.map_cons, List.map_nil, List.cons_append, List.nil_append, List.replicate_succ, List.replicate_zero, List.length_cons, List.length_nil, if_true, if_false, reduceIte, Bool.false_eq_true, Bool.not_true, Bool.not_false, decide_true, decide_false]; rfl)
    (lc_as (g := fun k : Nat => .int ((k : Nat) : Int)) (f := fun k => .int (wt gs k)) (ks := ws) fun k hk => ⟨[s0, .val (GD gs), .val (.tuple (nD ws)), .val (.int ((k : Nat) : Int))], rfl, by
      have g1 := ix_g (hlt k hk)
      simp only [runM, runS, env0, flD, cal, sSeq, sIf, sRet, sRetN, sDrop, sAsg, sOwn, sFrz, frz, sPar, sPar3, sParF, sParF3, mkSl, sNx, sNo, sBk, sCt, sApp, sExt, sSetIx, sAug, sFor, sWhile, m1, m2, mC, mVar, mLook, mAnd, mOr, mNot, mIte, mB, mV, mTru, dTru, mAndV, mOrV, mNotV, mNil, mCons, mTup, mLst, mF, mFS, mItems, mRng, mRng1, mRng2, mRng3, dRng1, dRng2, dRng3, mEnum, mZip, mEnumA, mZipA, mCut, mNoP, mPt, mRev, mNeg, dNeg, dRev, dCut, mLc, mYes, pName, pTup, pTupL, pNil, pCons, wipeS, dAdd, dSub, dMul, dDiv, dMod, dMulI, dAddI, dCmp, dIsN, dNotN, isNone, dLenX, dLen, seqOf, dAbs, dMax2, dMin2, dInt, dTuple, dList, dCatL, dRepL, mSt, mStLen, mStCell, sSt, sSt3, drwGet, drwSet, mCh2, mCh3, mCount, dCount, Option.bind_some, Option.map_some, Option.bind_none, Option.map_none, List.getElem?_cons_zero, List.getElem?_cons_succ, List.set_cons_zero, List.set_cons_succ, List.map_cons, List.map_nil, List.cons_append, List.nil_append, List.replicate_succ, List.replicate_zero, List.length_cons, List.length_nil, if_true, if_false, reduceIte, Bool.false_eq_true, Bool.not_true, Bool.not_false, decide_true, decide_false, g1, gD, ix_tup3_2]⟩) (by rw [List.length_map]; exact lb_of (by omega))
  exact mF1_of lc (dSum_map (wt gs) ws)
theorem W_rev {gs : List Gap} (ks : List Nat) : W gs ks.reverse = W gs ks := by
  unfold W
  rw [List.map_reverse, List.sum_reverse]
theorem ev_accept_ring {sp : List Span} {gs : List Gap} (h : Sys sp gs) {c : List Nat} {u : Nat} (hc : c ≠ []) (hl : c.length ≤ 8) (hw : Way gs u c u) (hp : 0 < W gs c) : G_accept_ring [SD sp, GD gs, .tuple (nD c.reverse)] = some .none := by
  have f := way_fwd hw
  have ck := ev_check_layers h
  have iw := ev_is_way f (by simpa using hc) (by simp; omega)
  have ws := lc_wts (s0 := .val (SD sp)) (fwd_lt f) (by simp; omega)
  rw [W_rev] at ws
  have hlt := fwd_lt f
  obtain ⟨i, l, e⟩ : ∃ i l, c.reverse = i ++ [l] := ⟨c.tail.reverse, c.head hc, by
    have : c = c.head hc :: c.tail := (List.cons_head_tail hc).symm
    conv => lhs; rw [this]
    rw [List.reverse_cons]⟩
  obtain ⟨a, r, e2⟩ : ∃ a r, c.reverse = a :: r := by
    cases q : c.reverse with
    | nil => exact absurd (by simpa using q) hc
    | cons a r => exact ⟨a, r, rfl⟩
  have h1 : oth gs l = u := by rw [e] at f; exact fwd_last f
  have h2 : one gs a = u := by rw [e2] at f; exact f.2.1
  have g1 := ix_g (hlt l (by rw [e]; simp))
  have g2 := ix_g (hlt a (by rw [e2]; simp))
  have x1 : dIx (.tuple (nD c.reverse)) (.int (-1)) = some (.int ((l : Nat) : Int)) := by
    rw [e]; unfold nD; rw [List.map_append]; exact ixT_last
  have x2 : dIx (.tuple (nD c.reverse)) (.int 0) = some (.int ((a : Nat) : Int)) := by
    rw [e2]; exact ixT_hd _ _
  have ne := dNe_int ((oth gs l : Nat) : Int) ((one gs a : Nat) : Int)
  unfold G_accept_ring
  refine runM_nx [.val (SD sp), .val (GD gs), .val (.tuple (nD c.reverse)), .no] rfl ?_
  unfold m_accept_ring
  rw [seq_nx (S1 := [.val (SD sp), .val (GD gs), .val (.tuple (nD c.reverse)), .no]) (w1 := w0) (by simp only [runM, runS, env0, flD, cal, sSeq, sIf, sRet, sRetN, sDrop, sAsg, sOwn, sFrz, frz, sPar, sPar3, sParF, sParF3, mkSl, sNx, sNo, sBk, sCt, sApp, sExt, sSetIx, sAug, sFor, sWhile, m1, m2, mC, mVar, mLook, mAnd, mOr, mNot, mIte, mB, mV, mTru, dTru, mAndV, mOrV, mNotV, mNil, mCons, mTup, mLst, mF, mFS, mItems, mRng, mRng1, mRng2, mRng3, dRng1, dRng2, dRng3, mEnum, mZip, mEnumA, mZipA, mCut, mNoP, mPt, mRev, mNeg, dNeg, dRev, dCut, mLc, mYes, pName, pTup, pTupL, pNil, pCons, wipeS, dAdd, dSub, dMul, dDiv, dMod, dMulI, dAddI, dCmp, dIsN, dNotN, isNone, dLenX, dLen, seqOf, dAbs, dMax2, dMin2, dInt, dTuple, dList, dCatL, dRepL, mSt, mStLen, mStCell, sSt, sSt3, drwGet, drwSet, mCh2, mCh3, mCount, dCount, Option.bind_some, Option.map_some, Option.bind_none, Option.map_none, List.getElem?_cons_zero, List.getElem?_cons_succ, List.set_cons_zero, List.set_cons_succ, List.map_cons, List.map_nil, List.cons_append, List.nil_append, List.replicate_succ, List.replicate_zero, List.length_cons, List.length_nil, if_true, if_false, reduceIte, Bool.false_eq_true, Bool.not_true, Bool.not_false, decide_true, decide_false, Nat.zero_add, Nat.reduceAdd, ck])]
  rw [seq_nx (if_no (w1 := w0) (by simp only [runM, runS, env0, flD, cal, sSeq, sIf, sRet, sRetN, sDrop, sAsg, sOwn, sFrz, frz, sPar, sPar3, sParF, sParF3, mkSl, sNx, sNo, sBk, sCt, sApp, sExt, sSetIx, sAug, sFor, sWhile, m1, m2, mC, mVar, mLook, mAnd, mOr, mNot, mIte, mB, mV, mTru, dTru, mAndV, mOrV, mNotV, mNil, mCons, mTup, mLst, mF, mFS, mItems, mRng, mRng1, mRng2, mRng3, dRng1, dRng2, dRng3, mEnum, mZip, mEnumA, mZipA, mCut, mNoP, mPt, mRev, mNeg, dNeg, dRev, dCut, mLc, mYes, pName, pTup, pTupL, pNil, pCons, wipeS, dAdd, dSub, dMul, dDiv, dMod, dMulI, dAddI, dCmp, dIsN, dNotN, isNone, dLenX, dLen, seqOf, dAbs, dMax2, dMin2, dInt, dTuple, dList, dCatL, dRepL, mSt, mStLen, mStCell, sSt, sSt3, drwGet, drwSet, mCh2, mCh3, mCount, dCount, Option.bind_some, Option.map_some, Option.bind_none, Option.map_none, List.getElem?_cons_zero, List.getElem?_cons_succ, List.set_cons_zero, List.set_cons_succ, List.map_cons, List.map_nil, List.cons_append, List.nil_append, List.replicate_succ, List.replicate_zero, List.length_cons, List.length_nil, if_true, if_false, reduceIte, Bool.false_eq_true, Bool.not_true, Bool.not_false, decide_true, decide_false, Nat.zero_add, Nat.reduceAdd, iw]))]
  rw [seq_nx (if_no (w1 := w0) (by
    have nu : dNe (.int ((u : Nat) : Int)) (.int ((u : Nat) : Int)) = some (.bool false) := dNe_refl rfl
    simp only [runM, runS, env0, flD, cal, sSeq, sIf, sRet, sRetN, sDrop, sAsg, sOwn, sFrz, frz, sPar, sPar3, sParF, sParF3, mkSl, sNx, sNo, sBk, sCt, sApp, sExt, sSetIx, sAug, sFor, sWhile, m1, m2, mC, mVar, mLook, mAnd, mOr, mNot, mIte, mB, mV, mTru, dTru, mAndV, mOrV, mNotV, mNil, mCons, mTup, mLst, mF, mFS, mItems, mRng, mRng1, mRng2, mRng3, dRng1, dRng2, dRng3, mEnum, mZip, mEnumA, mZipA, mCut, mNoP, mPt, mRev, mNeg, dNeg, dRev, dCut, mLc, mYes, pName, pTup, pTupL, pNil, pCons, wipeS, dAdd, dSub, dMul, dDiv, dMod, dMulI, dAddI, dCmp, dIsN, dNotN, isNone, dLenX, dLen, seqOf, dAbs, dMax2, dMin2, dInt, dTuple, dList, dCatL, dRepL, mSt, mStLen, mStCell, sSt, sSt3, drwGet, drwSet, mCh2, mCh3, mCount, dCount, Option.bind_some, Option.map_some, Option.bind_none, Option.map_none, List.getElem?_cons_zero, List.getElem?_cons_succ, List.set_cons_zero, List.set_cons_succ, List.map_cons, List.map_nil, List.cons_append, List.nil_append, List.replicate_succ, List.replicate_zero, List.length_cons, List.length_nil, if_true, if_false, reduceIte, Bool.false_eq_true, Bool.not_true, Bool.not_false, decide_true, decide_false, x1, x2, g1, g2, gD, ix_tup3_0, ix_tup3_1, h1, h2, nu]))]
  rw [if_no (w1 := w0) (by
    have c1 : ¬ W gs c ≤ 0 := by omega
    exact mB_of (m2_of ws rfl (by show some (PyData.bool (decide (W gs c ≤ 0))) = _; rw [decide_eq_false c1])))]
  exact ⟨_, _, rfl⟩
theorem ev_accept_late {sp : List Span} {gs : List Gap} (h : Sys sp gs) {ks : List Nat} {v u : Nat} (hc : ks ≠ []) (hl : ks.length ≤ 7) (hw : Way gs v ks u) (hv : v < sp.length) (hp : shi sp v < slo sp u + W gs ks) : G_accept_late [SD sp, GD gs, .tuple (nD ks.reverse)] = some .none := by
  have f := way_fwd hw
  have ck := ev_check_layers h
  have iw := ev_is_way f (by simpa using hc) (by simp; omega)
  have ws := lc_wts (s0 := .val (SD sp)) (fwd_lt f) (by simp; omega)
  rw [W_rev] at ws
  have hlt := fwd_lt f
  obtain ⟨i, l, e⟩ : ∃ i l, ks.reverse = i ++ [l] := ⟨ks.tail.reverse, ks.head hc, by
    have : ks = ks.head hc :: ks.tail := (List.cons_head_tail hc).symm
    conv => lhs; rw [this]
    rw [List.reverse_cons]⟩
  obtain ⟨a, r, e2⟩ : ∃ a r, ks.reverse = a :: r := by
    cases q : ks.reverse with
    | nil => exact absurd (by simpa using q) hc
    | cons a r => exact ⟨a, r, rfl⟩
  have h1 : oth gs l = v := by rw [e] at f; exact fwd_last f
  have h2 : one gs a = u := by rw [e2] at f; exact f.2.1
  have la := hlt a (by rw [e2]; simp)
  have ll := hlt l (by rw [e]; simp)
  have g1 := ix_g ll
  have g2 := ix_g la
  have hu : one gs a < sp.length := (h.gap _ (mem_gap la)).1
  have hv' : oth gs l < sp.length := by rw [h1]; exact hv
  have s1 := ix_s hv'
  have s2 := ix_s hu
  have x1 : dIx (.tuple (nD ks.reverse)) (.int (-1)) = some (.int ((l : Nat) : Int)) := by
    rw [e]; unfold nD; rw [List.map_append]; exact ixT_last
  have x2 : dIx (.tuple (nD ks.reverse)) (.int 0) = some (.int ((a : Nat) : Int)) := by
    rw [e2]; exact ixT_hd _ _
  unfold G_accept_late
  refine runM_nx [.val (SD sp), .val (GD gs), .val (.tuple (nD ks.reverse)), .no] rfl ?_
  unfold m_accept_late
  rw [seq_nx (S1 := [.val (SD sp), .val (GD gs), .val (.tuple (nD ks.reverse)), .no]) (w1 := w0) (by simp only [runM, runS, env0, flD, cal, sSeq, sIf, sRet, sRetN, sDrop, sAsg, sOwn, sFrz, frz, sPar, sPar3, sParF, sParF3, mkSl, sNx, sNo, sBk, sCt, sApp, sExt, sSetIx, sAug, sFor, sWhile, m1, m2, mC, mVar, mLook, mAnd, mOr, mNot, mIte, mB, mV, mTru, dTru, mAndV, mOrV, mNotV, mNil, mCons, mTup, mLst, mF, mFS, mItems, mRng, mRng1, mRng2, mRng3, dRng1, dRng2, dRng3, mEnum, mZip, mEnumA, mZipA, mCut, mNoP, mPt, mRev, mNeg, dNeg, dRev, dCut, mLc, mYes, pName, pTup, pTupL, pNil, pCons, wipeS, dAdd, dSub, dMul, dDiv, dMod, dMulI, dAddI, dCmp, dIsN, dNotN, isNone, dLenX, dLen, seqOf, dAbs, dMax2, dMin2, dInt, dTuple, dList, dCatL, dRepL, mSt, mStLen, mStCell, sSt, sSt3, drwGet, drwSet, mCh2, mCh3, mCount, dCount, Option.bind_some, Option.map_some, Option.bind_none, Option.map_none, List.getElem?_cons_zero, List.getElem?_cons_succ, List.set_cons_zero, List.set_cons_succ, List.map_cons, List.map_nil, List.cons_append, List.nil_append, List.replicate_succ, List.replicate_zero, List.length_cons, List.length_nil, if_true, if_false, reduceIte, Bool.false_eq_true, Bool.not_true, Bool.not_false, decide_true, decide_false, Nat.zero_add, Nat.reduceAdd, ck])]
  rw [seq_nx (if_no (w1 := w0) (by simp only [runM, runS, env0, flD, cal, sSeq, sIf, sRet, sRetN, sDrop, sAsg, sOwn, sFrz, frz, sPar, sPar3, sParF, sParF3, mkSl, sNx, sNo, sBk, sCt, sApp, sExt, sSetIx, sAug, sFor, sWhile, m1, m2, mC, mVar, mLook, mAnd, mOr, mNot, mIte, mB, mV, mTru, dTru, mAndV, mOrV, mNotV, mNil, mCons, mTup, mLst, mF, mFS, mItems, mRng, mRng1, mRng2, mRng3, dRng1, dRng2, dRng3, mEnum, mZip, mEnumA, mZipA, mCut, mNoP, mPt, mRev, mNeg, dNeg, dRev, dCut, mLc, mYes, pName, pTup, pTupL, pNil, pCons, wipeS, dAdd, dSub, dMul, dDiv, dMod, dMulI, dAddI, dCmp, dIsN, dNotN, isNone, dLenX, dLen, seqOf, dAbs, dMax2, dMin2, dInt, dTuple, dList, dCatL, dRepL, mSt, mStLen, mStCell, sSt, sSt3, drwGet, drwSet, mCh2, mCh3, mCount, dCount, Option.bind_some, Option.map_some, Option.bind_none, Option.map_none, List.getElem?_cons_zero, List.getElem?_cons_succ, List.set_cons_zero, List.set_cons_succ, List.map_cons, List.map_nil, List.cons_append, List.nil_append, List.replicate_succ, List.replicate_zero, List.length_cons, List.length_nil, if_true, if_false, reduceIte, Bool.false_eq_true, Bool.not_true, Bool.not_false, decide_true, decide_false, Nat.zero_add, Nat.reduceAdd, iw]))]
  have hp' : ¬ slo sp (one gs a) + W gs ks ≤ shi sp (oth gs l) := by rw [h1, h2]; omega
  generalize hS : mF dSum (mCons (mLc (mItems (mLook 2)) (pName 3) mYes (m2 dIx (m2 dIx (mLook 1) (mLook 3)) (mC (.int 2))) [3]) mNil) = sm at ws
  rw [if_no (w1 := w0) (by
    simp only [runM, runS, env0, flD, cal, sSeq, sIf, sRet, sRetN, sDrop, sAsg, sOwn, sFrz, frz, sPar, sPar3, sParF, sParF3, mkSl, sNx, sNo, sBk, sCt, sApp, sExt, sSetIx, sAug, sFor, sWhile, m1, m2, mC, mVar, mLook, mAnd, mOr, mNot, mIte, mB, mV, mTru, dTru, mAndV, mOrV, mNotV, mNil, mCons, mTup, mLst, mF, mFS, mItems, mRng, mRng1, mRng2, mRng3, dRng1, dRng2, dRng3, mEnum, mZip, mEnumA, mZipA, mCut, mNoP, mPt, mRev, mNeg, dNeg, dRev, dCut, mLc, mYes, pName, pTup, pTupL, pNil, pCons, wipeS, dAdd, dSub, dMul, dDiv, dMod, dMulI, dAddI, dCmp, dIsN, dNotN, isNone, dLenX, dLen, seqOf, dAbs, dMax2, dMin2, dInt, dTuple, dList, dCatL, dRepL, mSt, mStLen, mStCell, sSt, sSt3, drwGet, drwSet, mCh2, mCh3, mCount, dCount, Option.bind_some, Option.map_some, Option.bind_none, Option.map_none, List.getElem?_cons_zero, List.getElem?_cons_succ, List.set_cons_zero, List.set_cons_succ, List.map_cons, List.map_nil, List.cons_append, List.nil_append, List.replicate_succ, List.replicate_zero, List.length_cons, List.length_nil, if_true, if_false, reduceIte, Bool.false_eq_true, Bool.not_true, Bool.not_false, decide_true, decide_false, x1, x2, g1, g2, s1, s2, gD, sD, ix_tup3_0, ix_tup3_1, ix_tup2_0, ix_tup2_1, ws]
    simp [dLe, dCmp, hp'])]
  exact ⟨_, _, rfl⟩
theorem ev_accept_years {sp : List Span} {gs : List Gap} (h : Sys sp gs) {x : List Int} (hx : Sol sp gs x) : G_accept_years [SD sp, GD gs, rowD x] = some .none := by
  have f7 := h.few
  have ck := ev_check_layers h
  have xl := hx.len
  have l1 : (x.map fun _ : Int => PyData.bool true).length ≤ LB := by rw [List.length_map]; exact lb_of (by omega)
  have lc1 := mLc_of (mi := mItems (mLook 2)) (p := pName 3) (t := mYes) (e := mF (cal 1 G_is_integer) (mCons (mVar 3) mNil)) (vs := [3]) (S := [.val (SD sp), .val (GD gs), .val (rowD x), .no, .no, .no, .no, .no]) (w := w0) (w1 := w0)
    (by simp only [runM, runS, env0, flD, cal, sSeq, sIf, sRet, sRetN, sDrop, sAsg, sOwn, sFrz, frz, sPar, sPar3, sParF, sParF3, mkSl, sNx, sNo, sBk, sCt, sApp, sExt, sSetIx, sAug, sFor, sWhile, m1, m2, mC, mVar, mLook, mAnd, mOr, mNot, mIte, mB, mV, mTru, dTru, mAndV, mOrV, mNotV, mNil, mCons, mTup, mLst, mF, mFS, mItems, mRng, mRng1, mRng2, mRng3, dRng1, dRng2, dRng3, mEnum, mZip, mEnumA, mZipA, mCut, mNoP, mPt, mRev, mNeg, dNeg, dRev, dCut, mLc, mYes, pName, pTup, pTupL, pNil, pCons, wipeS, dAdd, dSub, dMul, dDiv, dMod, dMulI, dAddI, dCmp, dIsN, dNotN, isNone, dLenX, dLen, seqOf, dAbs, dMax2, dMin2, dInt, dTuple, dList, dCatL, dRepL, mSt, mStLen, mStCell, sSt, sSt3, drwGet, drwSet, mCh2, mCh3, mCount, dCount, Option.bind_some, Option.map_some, Option.bind_none, Option.map_none, List.getElem?_cons_zero, List.getElem?_cons_succ, List.set_cons_zero, List.set_cons_succ, List.map_cons, List.map_nil, List.cons_append, List.nil_append, List.replicate_succ, List.replicate_zero, List.length_cons, List.length_nil, if_true, if_false, reduceIte, Bool.false_eq_true, Bool.not_true, Bool.not_false, decide_true, decide_false, rowD]) (lc_as (g := PyData.int) (f := fun _ => .bool true) (ks := x) fun k hk => ⟨[.val (SD sp), .val (GD gs), .val (rowD x), .val (.int k), .no, .no, .no, .no], rfl, by
      simp only [runM, runS, env0, flD, cal, sSeq, sIf, sRet, sRetN, sDrop, sAsg, sOwn, sFrz, frz, sPar, sPar3, sParF, sParF3, mkSl, sNx, sNo, sBk, sCt, sApp, sExt, sSetIx, sAug, sFor, sWhile, m1, m2, mC, mVar, mLook, mAnd, mOr, mNot, mIte, mB, mV, mTru, dTru, mAndV, mOrV, mNotV, mNil, mCons, mTup, mLst, mF, mFS, mItems, mRng, mRng1, mRng2, mRng3, dRng1, dRng2, dRng3, mEnum, mZip, mEnumA, mZipA, mCut, mNoP, mPt, mRev, mNeg, dNeg, dRev, dCut, mLc, mYes, pName, pTup, pTupL, pNil, pCons, wipeS, dAdd, dSub, dMul, dDiv, dMod, dMulI, dAddI, dCmp, dIsN, dNotN, isNone, dLenX, dLen, seqOf, dAbs, dMax2, dMin2, dInt, dTuple, dList, dCatL, dRepL, mSt, mStLen, mStCell, sSt, sSt3, drwGet, drwSet, mCh2, mCh3, mCount, dCount, Option.bind_some, Option.map_some, Option.bind_none, Option.map_none, List.getElem?_cons_zero, List.getElem?_cons_succ, List.set_cons_zero, List.set_cons_succ, List.map_cons, List.map_nil, List.cons_append, List.nil_append, List.replicate_succ, List.replicate_zero, List.length_cons, List.length_nil, if_true, if_false, reduceIte, Bool.false_eq_true, Bool.not_true, Bool.not_false, decide_true, decide_false, ev_is_integer, Nat.zero_add, Nat.reduceAdd]⟩) l1
  have da := dAll_true (f := fun _ : Int => PyData.bool true) x fun _ _ => rfl
  have lc2 : mLc (mZipA (mLook 2) (mLook 0)) (pTup (pCons (pName 3) (pCons (pName 4) pNil))) (mNot (mB (mCh2 dLe dLe (m2 dIx (mLook 4) (mC (.int 0))) (mLook 3) (m2 dIx (mLook 4) (mC (.int 1)))))) (mC (.int 1)) [3, 4] [.val (SD sp), .val (GD gs), .val (rowD x), .no, .no, .no, .no, .no] w0 = some (.list [], w0) := by
    refine mLc_of (w1 := w0) (ds := (x.zip sp).map fun p => .tuple [.int p.1, sD p.2]) (by simp only [runM, runS, env0, flD, cal, sSeq, sIf, sRet, sRetN, sDrop, sAsg, sOwn, sFrz, frz, sPar, sPar3, sParF, sParF3, mkSl, sNx, sNo, sBk, sCt, sApp, sExt, sSetIx, sAug, sFor, sWhile, m1, m2, mC, mVar, mLook, mAnd, mOr, mNot, mIte, mB, mV, mTru, dTru, mAndV, mOrV, mNotV, mNil, mCons, mTup, mLst, mF, mFS, mItems, mRng, mRng1, mRng2, mRng3, dRng1, dRng2, dRng3, mEnum, mZip, mEnumA, mZipA, mCut, mNoP, mPt, mRev, mNeg, dNeg, dRev, dCut, mLc, mYes, pName, pTup, pTupL, pNil, pCons, wipeS, dAdd, dSub, dMul, dDiv, dMod, dMulI, dAddI, dCmp, dIsN, dNotN, isNone, dLenX, dLen, seqOf, dAbs, dMax2, dMin2, dInt, dTuple, dList, dCatL, dRepL, mSt, mStLen, mStCell, sSt, sSt3, drwGet, drwSet, mCh2, mCh3, mCount, dCount, Option.bind_some, Option.map_some, Option.bind_none, Option.map_none, List.getElem?_cons_zero, List.getElem?_cons_succ, List.set_cons_zero, List.set_cons_succ, List.map_cons, List.map_nil, List.cons_append, List.nil_append, List.replicate_succ, List.replicate_zero, List.length_cons, List.length_nil, if_true, if_false, reduceIte, Bool.false_eq_true, Bool.not_true, Bool.not_false, decide_true, decide_false, rowD, SD]; rw [zipD_map]) ?_ (by show 0 ≤ 1000000; omega)
    have q := lc_asF (p := (pTup (pCons (pName 3) (pCons (pName 4) pNil)))) (t := mNot (mB (mCh2 dLe dLe (m2 dIx (mLook 4) (mC (.int 0))) (mLook 3) (m2 dIx (mLook 4) (mC (.int 1)))))) (e := mC (.int 1)) (S := [.val (SD sp), .val (GD gs), .val (rowD x), .no, .no, .no, .no, .no]) (w := w0)
      (g := fun p : Int × Span => .tuple [.int p.1, sD p.2]) (f := fun _ => .int 1) (c := fun _ => false) (ks := x.zip sp) fun p hp => by
        obtain ⟨i, hi, e⟩ := List.mem_iff_getElem.mp hp
        rw [List.length_zip] at hi
        rw [List.getElem_zip] at e
        have a1 := hx.low i (by omega)
        have a2 := hx.high i (by omega)
        have e1 : A x i = p.1 := by
          unfold A
          rw [List.getD_eq_getElem?_getD, List.getElem?_eq_getElem (by omega), ← e]; rfl
        have e2 : slo sp i = p.2.1 := by
          unfold slo
          rw [List.getD_eq_getElem?_getD, List.getElem?_eq_getElem (by omega), ← e]; rfl
        have e3 : shi sp i = p.2.2 := by
          unfold shi
          rw [List.getD_eq_getElem?_getD, List.getElem?_eq_getElem (by omega), ← e]; rfl
        rw [e1, e2] at a1
        rw [e1, e3] at a2
        refine ⟨[.val (SD sp), .val (GD gs), .val (rowD x), .val (.int p.1), .val (sD p.2), .no, .no, .no], rfl, ?_, fun z => by cases z⟩
        simp [runM, runS, env0, flD, cal, sSeq, sIf, sRet, sRetN, sDrop, sAsg, sOwn, sFrz, frz, sPar, sPar3, sParF, sParF3, mkSl, sNx, sNo, sBk, sCt, sApp, sExt, sSetIx, sAug, sFor, sWhile, m1, m2, mC, mVar, mLook, mAnd, mOr, mNot, mIte, mB, mV, mTru, dTru, mAndV, mOrV, mNotV, mNil, mCons, mTup, mLst, mF, mFS, mItems, mRng, mRng1, mRng2, mRng3, dRng1, dRng2, dRng3, mEnum, mZip, mEnumA, mZipA, mCut, mNoP, mPt, mRev, mNeg, dNeg, dRev, dCut, mLc, mYes, pName, pTup, pTupL, pNil, pCons, wipeS, dAdd, dSub, dMul, dDiv, dMod, dMulI, dAddI, dCmp, dIsN, dNotN, isNone, dLenX, dLen, seqOf, dAbs, dMax2, dMin2, dInt, dTuple, dList, dCatL, dRepL, mSt, mStLen, mStCell, sSt, sSt3, drwGet, drwSet, mCh2, mCh3, mCount, dCount, Option.bind_some, Option.map_some, Option.bind_none, Option.map_none, List.getElem?_cons_zero, List.getElem?_cons_succ, List.set_cons_zero, List.set_cons_succ, List.map_cons, List.map_nil, List.cons_append, List.nil_append, List.replicate_succ, List.replicate_zero, List.length_cons, List.length_nil, if_true, if_false, reduceIte, Bool.false_eq_true, Bool.not_true, Bool.not_false, decide_true, decide_false, sD, ix_tup2_0, ix_tup2_1, dLe, a1, a2]
    rw [List.filter_eq_nil_iff.mpr (by simp)] at q
    exact q
  have lc3 : mLc (mItems (mLook 1)) (pTup (pCons (pName 5) (pCons (pName 6) (pCons (pName 7) pNil)))) (mB (m2 dLt (m2 dSub (m2 dIx (mLook 2) (mLook 6)) (m2 dIx (mLook 2) (mLook 5))) (mLook 7))) (mC (.int 1)) [5, 6, 7] [.val (SD sp), .val (GD gs), .val (rowD x), .no, .no, .no, .no, .no] w0 = some (.list [], w0) := by
    refine mLc_of (w1 := w0) (ds := gs.map gD) (by simp only [runM, runS, env0, flD, cal, sSeq, sIf, sRet, sRetN, sDrop, sAsg, sOwn, sFrz, frz, sPar, sPar3, sParF, sParF3, mkSl, sNx, sNo, sBk, sCt, sApp, sExt, sSetIx, sAug, sFor, sWhile, m1, m2, mC, mVar, mLook, mAnd, mOr, mNot, mIte, mB, mV, mTru, dTru, mAndV, mOrV, mNotV, mNil, mCons, mTup, mLst, mF, mFS, mItems, mRng, mRng1, mRng2, mRng3, dRng1, dRng2, dRng3, mEnum, mZip, mEnumA, mZipA, mCut, mNoP, mPt, mRev, mNeg, dNeg, dRev, dCut, mLc, mYes, pName, pTup, pTupL, pNil, pCons, wipeS, dAdd, dSub, dMul, dDiv, dMod, dMulI, dAddI, dCmp, dIsN, dNotN, isNone, dLenX, dLen, seqOf, dAbs, dMax2, dMin2, dInt, dTuple, dList, dCatL, dRepL, mSt, mStLen, mStCell, sSt, sSt3, drwGet, drwSet, mCh2, mCh3, mCount, dCount, Option.bind_some, Option.map_some, Option.bind_none, Option.map_none, List.getElem?_cons_zero, List.getElem?_cons_succ, List.set_cons_zero, List.set_cons_succ, List.map_cons, List.map_nil, List.cons_append, List.nil_append, List.replicate_succ, List.replicate_zero, List.length_cons, List.length_nil, if_true, if_false, reduceIte, Bool.false_eq_true, Bool.not_true, Bool.not_false, decide_true, decide_false, GD]) ?_ (by show 0 ≤ 1000000; omega)
    have q := lc_asF (p := (pTup (pCons (pName 5) (pCons (pName 6) (pCons (pName 7) pNil))))) (t := mB (m2 dLt (m2 dSub (m2 dIx (mLook 2) (mLook 6)) (m2 dIx (mLook 2) (mLook 5))) (mLook 7))) (e := mC (.int 1)) (S := [.val (SD sp), .val (GD gs), .val (rowD x), .no, .no, .no, .no, .no]) (w := w0)
      (g := gD) (f := fun _ => .int 1) (c := fun _ => false) (ks := gs) fun g hg => by
        have a1 := hx.gap g hg
        obtain ⟨b1, b2, _⟩ := h.gap g hg
        have r1 := ix_r (y := x) (a := g.1) (by omega)
        have r2 := ix_r (y := x) (a := g.2.1) (by omega)
        have c1 : ¬ A x g.2.1 - A x g.1 < g.2.2 := by omega
        refine ⟨[.val (SD sp), .val (GD gs), .val (rowD x), .no, .no, .val (.int ((g.1 : Nat) : Int)), .val (.int ((g.2.1 : Nat) : Int)), .val (.int g.2.2)], rfl, ?_, fun z => by cases z⟩
        simp [runM, runS, env0, flD, cal, sSeq, sIf, sRet, sRetN, sDrop, sAsg, sOwn, sFrz, frz, sPar, sPar3, sParF, sParF3, mkSl, sNx, sNo, sBk, sCt, sApp, sExt, sSetIx, sAug, sFor, sWhile, m1, m2, mC, mVar, mLook, mAnd, mOr, mNot, mIte, mB, mV, mTru, dTru, mAndV, mOrV, mNotV, mNil, mCons, mTup, mLst, mF, mFS, mItems, mRng, mRng1, mRng2, mRng3, dRng1, dRng2, dRng3, mEnum, mZip, mEnumA, mZipA, mCut, mNoP, mPt, mRev, mNeg, dNeg, dRev, dCut, mLc, mYes, pName, pTup, pTupL, pNil, pCons, wipeS, dAdd, dSub, dMul, dDiv, dMod, dMulI, dAddI, dCmp, dIsN, dNotN, isNone, dLenX, dLen, seqOf, dAbs, dMax2, dMin2, dInt, dTuple, dList, dCatL, dRepL, mSt, mStLen, mStCell, sSt, sSt3, drwGet, drwSet, mCh2, mCh3, mCount, dCount, Option.bind_some, Option.map_some, Option.bind_none, Option.map_none, List.getElem?_cons_zero, List.getElem?_cons_succ, List.set_cons_zero, List.set_cons_succ, List.map_cons, List.map_nil, List.cons_append, List.nil_append, List.replicate_succ, List.replicate_zero, List.length_cons, List.length_nil, if_true, if_false, reduceIte, Bool.false_eq_true, Bool.not_true, Bool.not_false, decide_true, decide_false, r1, r2, dLt, c1]
    rw [List.filter_eq_nil_iff.mpr (by simp)] at q
    exact q
  have ne : dNe (.int ((x.length : Nat) : Int)) (.int ((sp.length : Nat) : Int)) = some (.bool false) := by rw [xl]; exact dNe_refl rfl
  unfold G_accept_years
  refine runM_nx [.val (SD sp), .val (GD gs), .val (rowD x), .no, .no, .no, .no, .no] rfl ?_
  unfold m_accept_years
  rw [seq_nx (S1 := [.val (SD sp), .val (GD gs), .val (rowD x), .no, .no, .no, .no, .no]) (w1 := w0) (by simp only [runM, runS, env0, flD, cal, sSeq, sIf, sRet, sRetN, sDrop, sAsg, sOwn, sFrz, frz, sPar, sPar3, sParF, sParF3, mkSl, sNx, sNo, sBk, sCt, sApp, sExt, sSetIx, sAug, sFor, sWhile, m1, m2, mC, mVar, mLook, mAnd, mOr, mNot, mIte, mB, mV, mTru, dTru, mAndV, mOrV, mNotV, mNil, mCons, mTup, mLst, mF, mFS, mItems, mRng, mRng1, mRng2, mRng3, dRng1, dRng2, dRng3, mEnum, mZip, mEnumA, mZipA, mCut, mNoP, mPt, mRev, mNeg, dNeg, dRev, dCut, mLc, mYes, pName, pTup, pTupL, pNil, pCons, wipeS, dAdd, dSub, dMul, dDiv, dMod, dMulI, dAddI, dCmp, dIsN, dNotN, isNone, dLenX, dLen, seqOf, dAbs, dMax2, dMin2, dInt, dTuple, dList, dCatL, dRepL, mSt, mStLen, mStCell, sSt, sSt3, drwGet, drwSet, mCh2, mCh3, mCount, dCount, Option.bind_some, Option.map_some, Option.bind_none, Option.map_none, List.getElem?_cons_zero, List.getElem?_cons_succ, List.set_cons_zero, List.set_cons_succ, List.map_cons, List.map_nil, List.cons_append, List.nil_append, List.replicate_succ, List.replicate_zero, List.length_cons, List.length_nil, if_true, if_false, reduceIte, Bool.false_eq_true, Bool.not_true, Bool.not_false, decide_true, decide_false, Nat.zero_add, Nat.reduceAdd, ck])]
  rw [seq_nx (if_no (mOr_no (w1 := w0) (by simp only [runM, runS, env0, flD, cal, sSeq, sIf, sRet, sRetN, sDrop, sAsg, sOwn, sFrz, frz, sPar, sPar3, sParF, sParF3, mkSl, sNx, sNo, sBk, sCt, sApp, sExt, sSetIx, sAug, sFor, sWhile, m1, m2, mC, mVar, mLook, mAnd, mOr, mNot, mIte, mB, mV, mTru, dTru, mAndV, mOrV, mNotV, mNil, mCons, mTup, mLst, mF, mFS, mItems, mRng, mRng1, mRng2, mRng3, dRng1, dRng2, dRng3, mEnum, mZip, mEnumA, mZipA, mCut, mNoP, mPt, mRev, mNeg, dNeg, dRev, dCut, mLc, mYes, pName, pTup, pTupL, pNil, pCons, wipeS, dAdd, dSub, dMul, dDiv, dMod, dMulI, dAddI, dCmp, dIsN, dNotN, isNone, dLenX, dLen, seqOf, dAbs, dMax2, dMin2, dInt, dTuple, dList, dCatL, dRepL, mSt, mStLen, mStCell, sSt, sSt3, drwGet, drwSet, mCh2, mCh3, mCount, dCount, Option.bind_some, Option.map_some, Option.bind_none, Option.map_none, List.getElem?_cons_zero, List.getElem?_cons_succ, List.set_cons_zero, List.set_cons_succ, List.map_cons, List.map_nil, List.cons_append, List.nil_append, List.replicate_succ, List.replicate_zero, List.length_cons, List.length_nil, if_true, if_false, reduceIte, Bool.false_eq_true, Bool.not_true, Bool.not_false, decide_true, decide_false, mIsi, rowD, isi_tup]) (mOr_no (w1 := w0) (by simp only [runM, runS, env0, flD, cal, sSeq, sIf, sRet, sRetN, sDrop, sAsg, sOwn, sFrz, frz, sPar, sPar3, sParF, sParF3, mkSl, sNx, sNo, sBk, sCt, sApp, sExt, sSetIx, sAug, sFor, sWhile, m1, m2, mC, mVar, mLook, mAnd, mOr, mNot, mIte, mB, mV, mTru, dTru, mAndV, mOrV, mNotV, mNil, mCons, mTup, mLst, mF, mFS, mItems, mRng, mRng1, mRng2, mRng3, dRng1, dRng2, dRng3, mEnum, mZip, mEnumA, mZipA, mCut, mNoP, mPt, mRev, mNeg, dNeg, dRev, dCut, mLc, mYes, pName, pTup, pTupL, pNil, pCons, wipeS, dAdd, dSub, dMul, dDiv, dMod, dMulI, dAddI, dCmp, dIsN, dNotN, isNone, dLenX, dLen, seqOf, dAbs, dMax2, dMin2, dInt, dTuple, dList, dCatL, dRepL, mSt, mStLen, mStCell, sSt, sSt3, drwGet, drwSet, mCh2, mCh3, mCount, dCount, Option.bind_some, Option.map_some, Option.bind_none, Option.map_none, List.getElem?_cons_zero, List.getElem?_cons_succ, List.set_cons_zero, List.set_cons_succ, List.map_cons, List.map_nil, List.cons_append, List.nil_append, List.replicate_succ, List.replicate_zero, List.length_cons, List.length_nil, if_true, if_false, reduceIte, Bool.false_eq_true, Bool.not_true, Bool.not_false, decide_true, decide_false, rowD, SD, List.length_map, ne]) (mNot_of (mTru_of (mF1_of lc1 da) rfl)))))]
  rw [seq_nx (if_no (mTru_of lc2 rfl))]
  rw [if_no (mTru_of lc3 rfl)]
  exact ⟨_, _, rfl⟩
end K64

set_option Elab.async false
set_option linter.all false
set_option maxRecDepth 100000
set_option maxHeartbeats 4000000
namespace K64
open PySem PySem.Spec PyProof.Rows L2 Mini
theorem lc2_as {α β : Type} {p p1 : MG} {mi : MA} {e : ME} {vs1 : List Nat} {S : SEnv} {w : Drw} {g : α → PyData} {ls : α → List β} {g1 : β → PyData} {f : α → β → PyData} : ∀ {ks : List α},
    (∀ k ∈ ks, ∃ S1, p (g k) S = some S1 ∧ mi S1 w = some ((ls k).map g1, w) ∧ ∀ l ∈ ls k, ∃ S2, p1 (g1 l) (wipeS S1 vs1) = some S2 ∧ e S2 w = some (f k l, w)) →
    lc2Go p mYes mi p1 mYes e vs1 S (ks.map g) w = some (ks.flatMap fun k => (ls k).map (f k), w)
  | [], _ => rfl
  | k :: ks, h => by
    obtain ⟨S1, h1, h2, h3⟩ := h k List.mem_cons_self
    have ih := lc2_as (ks := ks) fun x hx => h x (List.mem_cons_of_mem _ hx)
    rw [List.map_cons, lc2Go, h1, Option.bind_some, show mYes S1 w = some (true, w) from rfl, Option.bind_some, if_pos rfl, h2, Option.bind_some, lc_as h3, Option.bind_some, ih]
    rfl
theorem mLc2_of {m0 : MA} {p : MG} {t : MT} {mi : MA} {p1 : MG} {t1 : MT} {e : ME} {vs vs1 : List Nat} {S : SEnv} {w w1 w2 : Drw} {ds rs : List PyData} (h1 : m0 S w = some (ds, w1)) (h2 : lc2Go p t mi p1 t1 e vs1 (wipeS S vs) ds w1 = some (rs, w2)) (hl : rs.length ≤ LB) : mLc2 m0 p t mi p1 t1 e vs vs1 S w = some (.list rs, w2) := by
  unfold mLc2
  rw [h1, Option.bind_some, h2, Option.bind_some, if_pos hl]
theorem ev_suits_loop {r : List Int} {d : PyData} : ∀ (gs : List Gap) (x2 x3 x4 : Sl), ∃ y2 y3 y4, forGo (pTup (pCons (pName 2) (pCons (pName 3) (pCons (pName 4) pNil)))) (sIf (mAnd (mB (m2 dLt (mLook 2) (mF dLenX (mCons (mLook 0) mNil)))) (mAnd (mB (m2 dLt (mLook 3) (mF dLenX (mCons (mLook 0) mNil)))) (mB (m2 dLt (m2 dSub (m2 dIx (mLook 0) (mLook 3)) (m2 dIx (mLook 0) (mLook 2))) (mLook 4)))))
    (sRet (mC (.bool false))) sNx) (gs.map gD) [.val (rowD r), .val d, x2, x3, x4] w0 = some (if suitsB gs r then .nx else .rt (.bool false), [.val (rowD r), .val d, y2, y3, y4], w0)
  | [], x2, x3, x4 => ⟨x2, x3, x4, rfl⟩
  | g :: gs, x2, x3, x4 => by
    obtain ⟨y2, y3, y4, ih⟩ := ev_suits_loop gs (.val (.int ((g.1 : Nat) : Int))) (.val (.int ((g.2.1 : Nat) : Int))) (.val (.int g.2.2))
    have pe : pTup (pCons (pName 2) (pCons (pName 3) (pCons (pName 4) pNil))) (gD g) [.val (rowD r), .val d, x2, x3, x4] = some [.val (rowD r), .val d, .val (.int ((g.1 : Nat) : Int)), .val (.int ((g.2.1 : Nat) : Int)), .val (.int g.2.2)] := rfl
    rw [List.map_cons, forGo_cons, pe, Option.bind_some]
    have len : mF dLenX (mCons (mLook 0) mNil) [.val (rowD r), .val d, .val (.int ((g.1 : Nat) : Int)), .val (.int ((g.2.1 : Nat) : Int)), .val (.int g.2.2)] w0 = some (.int ((r.length : Nat) : Int), w0) := by
      simp only [runM, runS, env0, flD, cal, sSeq, sIf, sRet, sRetN, sDrop, sAsg, sOwn, sFrz, frz, sPar, sPar3, sParF, sParF3, mkSl, sNx, sNo, sBk, sCt, sApp, sExt, sSetIx, sAug, sFor, sWhile, m1, m2, mC, mVar, mLook, mAnd, mOr, mNot, mIte, mB, mV, mTru, dTru, mAndV, mOrV, mNotV, mNil, mCons, mTup, mLst, mF, mFS, mItems, mRng, mRng1, mRng2, mRng3, dRng1, dRng2, dRng3, mEnum, mZip, mEnumA, mZipA, mCut, mNoP, mPt, mRev, mNeg, dNeg, dRev, dCut, mLc, mYes, pName, pTup, pTupL, pNil, pCons, wipeS, dAdd, dSub, dMul, dDiv, dMod, dMulI, dAddI, dCmp, dIsN, dNotN, isNone, dLenX, dLen, seqOf, dAbs, dMax2, dMin2, dInt, dTuple, dList, dCatL, dRepL, mSt, mStLen, mStCell, sSt, sSt3, drwGet, drwSet, mCh2, mCh3, mCount, dCount, Option.bind_some, Option.map_some, Option.bind_none, Option.map_none, List.getElem?_cons_zero, List.getElem?_cons_succ, List.set_cons_zero, List.set_cons_succ, List.map_cons, List.map_nil, List.cons_append, List.nil_append, List.replicate_succ, List.replicate_zero, List.length_cons, List.length_nil, if_true, if_false, reduceIte, Bool.false_eq_true, Bool.not_true, Bool.not_false, decide_true, decide_false, rowD, List.length_map]
    have t1 : mB (m2 dLt (mLook 2) (mF dLenX (mCons (mLook 0) mNil))) [.val (rowD r), .val d, .val (.int ((g.1 : Nat) : Int)), .val (.int ((g.2.1 : Nat) : Int)), .val (.int g.2.2)] w0 = some (decide (g.1 < r.length), w0) :=
      mB_of (m2_of (d := .int ((g.1 : Nat) : Int)) rfl len (by show some (PyData.bool (decide (((g.1 : Nat) : Int) < ((r.length : Nat) : Int)))) = _; simp))
    have t2 : mB (m2 dLt (mLook 3) (mF dLenX (mCons (mLook 0) mNil))) [.val (rowD r), .val d, .val (.int ((g.1 : Nat) : Int)), .val (.int ((g.2.1 : Nat) : Int)), .val (.int g.2.2)] w0 = some (decide (g.2.1 < r.length), w0) :=
      mB_of (m2_of (d := .int ((g.2.1 : Nat) : Int)) rfl len (by show some (PyData.bool (decide (((g.2.1 : Nat) : Int) < ((r.length : Nat) : Int)))) = _; simp))
    by_cases h1 : g.1 < r.length
    · by_cases h2 : g.2.1 < r.length
      · have i1 := ix_r h1
        have i2 := ix_r h2
        have t3 : mB (m2 dLt (m2 dSub (m2 dIx (mLook 0) (mLook 3)) (m2 dIx (mLook 0) (mLook 2))) (mLook 4)) [.val (rowD r), .val d, .val (.int ((g.1 : Nat) : Int)), .val (.int ((g.2.1 : Nat) : Int)), .val (.int g.2.2)] w0 = some (decide (A r g.2.1 - A r g.1 < g.2.2), w0) := by
          simp only [runM, runS, env0, flD, cal, sSeq, sIf, sRet, sRetN, sDrop, sAsg, sOwn, sFrz, frz, sPar, sPar3, sParF, sParF3, mkSl, sNx, sNo, sBk, sCt, sApp, sExt, sSetIx, sAug, sFor, sWhile, m1, m2, mC, mVar, mLook, mAnd, mOr, mNot, mIte, mB, mV, mTru, dTru, mAndV, mOrV, mNotV, mNil, mCons, mTup, mLst, mF, mFS, mItems, mRng, mRng1, mRng2, mRng3, dRng1, dRng2, dRng3, mEnum, mZip, mEnumA, mZipA, mCut, mNoP, mPt, mRev, mNeg, dNeg, dRev, dCut, mLc, mYes, pName, pTup, pTupL, pNil, pCons, wipeS, dAdd, dSub, dMul, dDiv, dMod, dMulI, dAddI, dCmp, dIsN, dNotN, isNone, dLenX, dLen, seqOf, dAbs, dMax2, dMin2, dInt, dTuple, dList, dCatL, dRepL, mSt, mStLen, mStCell, sSt, sSt3, drwGet, drwSet, mCh2, mCh3, mCount, dCount, Option.bind_some, Option.map_some, Option.bind_none, Option.map_none, List.getElem?_cons_zero, List.getElem?_cons_succ, List.set_cons_zero, List.set_cons_succ, List.map_cons, List.map_nil, List.cons_append, List.nil_append, List.replicate_succ, List.replicate_zero, List.length_cons, List.length_nil, if_true, if_false, reduceIte, Bool.false_eq_true, Bool.not_true, Bool.not_false, decide_true, decide_false, i1, i2]
        have tt := mAnd_yes (t1.trans (by rw [decide_eq_true h1])) (mAnd_yes (t2.trans (by rw [decide_eq_true h2])) t3)
        by_cases h3 : A r g.2.1 - A r g.1 < g.2.2
        · rw [decide_eq_true h3] at tt
          have sf : suitsB (g :: gs) r = false := by unfold suitsB; rw [List.all_cons]; simp [h1, h2, h3]
          rw [if_yes tt, sf]
          exact ⟨_, _, _, rfl⟩
        · rw [decide_eq_false h3] at tt
          have sf : suitsB (g :: gs) r = suitsB gs r := by
            unfold suitsB; rw [List.all_cons, decide_eq_false h3, Bool.and_false, Bool.not_false, Bool.true_and]
          rw [if_no tt, sf]
          exact ⟨y2, y3, y4, ih⟩
      · have tt := mAnd_yes (t1.trans (by rw [decide_eq_true h1])) (mAnd_no (b := mB (m2 dLt (m2 dSub (m2 dIx (mLook 0) (mLook 3)) (m2 dIx (mLook 0) (mLook 2))) (mLook 4))) (t2.trans (by rw [decide_eq_false h2])))
        have sf : suitsB (g :: gs) r = suitsB gs r := by
          unfold suitsB; rw [List.all_cons, decide_eq_false h2, Bool.and_false, Bool.false_and, Bool.not_false, Bool.true_and]
        rw [if_no tt, sf]
        exact ⟨y2, y3, y4, ih⟩
    · have tt := mAnd_no (b := mAnd (mB (m2 dLt (mLook 3) (mF dLenX (mCons (mLook 0) mNil)))) (mB (m2 dLt (m2 dSub (m2 dIx (mLook 0) (mLook 3)) (m2 dIx (mLook 0) (mLook 2))) (mLook 4)))) (t1.trans (by rw [decide_eq_false h1]))
      have sf : suitsB (g :: gs) r = suitsB gs r := by
        unfold suitsB; rw [List.all_cons, decide_eq_false h1, Bool.false_and, Bool.false_and, Bool.not_false, Bool.true_and]
      rw [if_no tt, sf]
      exact ⟨y2, y3, y4, ih⟩
theorem ev_suits (gs : List Gap) (r : List Int) : G_suits [rowD r, GD gs] = some (.bool (suitsB gs r)) := by
  obtain ⟨y2, y3, y4, lp⟩ := ev_suits_loop (r := r) (d := GD gs) gs .no .no .no
  unfold G_suits
  refine runM_rt [.val (rowD r), .val (GD gs), .no, .no, .no] rfl ?_
  unfold m_suits
  have fe : ∀ {fl : Fl} {p b S1}, forGo p b (gs.map gD) [.val (rowD r), .val (GD gs), .no, .no, .no] w0 = some (fl, S1, w0) → sFor (mItems (mVar 1)) p b [.val (rowD r), .val (GD gs), .no, .no, .no] w0 = some (fl, S1, w0) := fun h => sFor_of (by simp only [runM, runS, env0, flD, cal, sSeq, sIf, sRet, sRetN, sDrop, sAsg, sOwn, sFrz, frz, sPar, sPar3, sParF, sParF3, mkSl, sNx, sNo, sBk, sCt, sApp, sExt, sSetIx, sAug, sFor, sWhile, m1, m2, mC, mVar, mLook, mAnd, mOr, mNot, mIte, mB, mV, mTru, dTru, mAndV, mOrV, mNotV, mNil, mCons, mTup, mLst, mF, mFS, mItems, mRng, mRng1, mRng2, mRng3, dRng1, dRng2, dRng3, mEnum, mZip, mEnumA, mZipA, mCut, mNoP, mPt, mRev, mNeg, dNeg, dRev, dCut, mLc, mYes, pName, pTup, pTupL, pNil, pCons, wipeS, dAdd, dSub, dMul, dDiv, dMod, dMulI, dAddI, dCmp, dIsN, dNotN, isNone, dLenX, dLen, seqOf, dAbs, dMax2, dMin2, dInt, dTuple, dList, dCatL, dRepL, mSt, mStLen, mStCell, sSt, sSt3, drwGet, drwSet, mCh2, mCh3, mCount, dCount, Option.bind_some, Option.map_some, Option.bind_none, Option.map_none, List.getElem?_cons_zero, List.getElem?_cons_succ, List.set_cons_zero, List.set_cons_succ, List.map_cons, List.map_nil, List.cons_append, List.nil_append, List.replicate_succ, List.replicate_zero, List.length_cons, List.length_nil, if_true, if_false, reduceIte, Bool.false_eq_true, Bool.not_true, Bool.not_false, decide_true, decide_false, GD]) h
  cases hs : suitsB gs r with
  | true =>
    rw [hs, if_pos rfl] at lp
    rw [seq_nx (fe lp)]
    exact ⟨_, _, rfl⟩
  | false =>
    rw [hs, if_neg Bool.false_ne_true] at lp
    rw [seq_rt (fe lp)]
    exact ⟨_, _, rfl⟩
theorem judged_years {sp : List Span} {gs : List Gap} (h : Sys sp gs) {x : List Int} (hx : Sol sp gs x) : G_judge_layers [SD sp, GD gs] = some (.tuple [.str "years", rowD (least sp gs)]) := by
  obtain ⟨d, h1, h2⟩ := ev_judge h
  obtain ⟨l1, l2, l3⟩ := least_sol h hx
  cases h2 with
  | ring q => exact absurd q l1
  | late _ q1 q2 => have := l2.high _ q1; omega
  | years _ => exact h1
theorem ne_years : dNe (.str "years") (.str "years") = some (.bool false) := dNe_refl rfl
theorem ev_check_right {sp : List Span} {gs : List Gap} (h : Sys sp gs) {x : List Int} (hx : Sol sp gs x) : G_check_right [SD sp, GD gs] = some .none := by
  have j := judged_years h hx
  unfold G_check_right
  refine runM_nx [.val (SD sp), .val (GD gs)] rfl ?_
  unfold m_check_right
  rw [if_no (w1 := w0) (by simp only [runM, runS, env0, flD, cal, sSeq, sIf, sRet, sRetN, sDrop, sAsg, sOwn, sFrz, frz, sPar, sPar3, sParF, sParF3, mkSl, sNx, sNo, sBk, sCt, sApp, sExt, sSetIx, sAug, sFor, sWhile, m1, m2, mC, mVar, mLook, mAnd, mOr, mNot, mIte, mB, mV, mTru, dTru, mAndV, mOrV, mNotV, mNil, mCons, mTup, mLst, mF, mFS, mItems, mRng, mRng1, mRng2, mRng3, dRng1, dRng2, dRng3, mEnum, mZip, mEnumA, mZipA, mCut, mNoP, mPt, mRev, mNeg, dNeg, dRev, dCut, mLc, mYes, pName, pTup, pTupL, pNil, pCons, wipeS, dAdd, dSub, dMul, dDiv, dMod, dMulI, dAddI, dCmp, dIsN, dNotN, isNone, dLenX, dLen, seqOf, dAbs, dMax2, dMin2, dInt, dTuple, dList, dCatL, dRepL, mSt, mStLen, mStCell, sSt, sSt3, drwGet, drwSet, mCh2, mCh3, mCount, dCount, Option.bind_some, Option.map_some, Option.bind_none, Option.map_none, List.getElem?_cons_zero, List.getElem?_cons_succ, List.set_cons_zero, List.set_cons_succ, List.map_cons, List.map_nil, List.cons_append, List.nil_append, List.replicate_succ, List.replicate_zero, List.length_cons, List.length_nil, if_true, if_false, reduceIte, Bool.false_eq_true, Bool.not_true, Bool.not_false, decide_true, decide_false, Nat.zero_add, Nat.reduceAdd, j, ix_tup2_0, ne_years])]
  exact ⟨_, _, rfl⟩
theorem GD_tgs (gs : List Gap) : GD (tgs gs) = .tuple (gs.map fun g => gD (g.2.1, g.1, g.2.2)) := by
  unfold GD tgs; rw [List.map_map]; rfl
theorem ev_bounds {sp : List Span} {gs : List Gap} (h : Sys sp gs) {x : List Int} (hx : Sol sp gs x) : G_bounds_of [SD sp, GD gs] = some (SD (bnds sp gs)) := by
  have f7 := h.few
  have gf := h.gfew
  have cr := ev_check_right h hx
  have j := judged_years h hx
  have gr := ev_grown_sp h.neg (r := sp.length) (by omega)
  have lnl : (least (nsp sp) (tgs gs)) = (grow (nsp sp) (tgs gs) sp.length).1 := by unfold least; rw [nsp_len]
  have lc1 := mLc_of (mi := mItems (mLook 1)) (p := pTup (pCons (pName 5) (pCons (pName 6) (pCons (pName 7) pNil)))) (t := mYes) (e := mTup (mCons (mVar 6) (mCons (mVar 5) (mCons (mVar 7) mNil)))) (vs := [5, 6, 7]) (S := [.val (SD sp), .val (GD gs), .val (rowD (least sp gs)), .no, .no, .no, .no, .no, .no, .no]) (w := w0) (w1 := w0) (by simp only [runM, runS, env0, flD, cal, sSeq, sIf, sRet, sRetN, sDrop, sAsg, sOwn, sFrz, frz, sPar, sPar3, sParF, sParF3, mkSl, sNx, sNo, sBk, sCt, sApp, sExt, sSetIx, sAug, sFor, sWhile, m1, m2, mC, mVar, mLook, mAnd, mOr, mNot, mIte, mB, mV, mTru, dTru, mAndV, mOrV, mNotV, mNil, mCons, mTup, mLst, mF, mFS, mItems, mRng, mRng1, mRng2, mRng3, dRng1, dRng2, dRng3, mEnum, mZip, mEnumA, mZipA, mCut, mNoP, mPt, mRev, mNeg, dNeg, dRev, dCut, mLc, mYes, pName, pTup, pTupL, pNil, pCons, wipeS, dAdd, dSub, dMul, dDiv, dMod, dMulI, dAddI, dCmp, dIsN, dNotN, isNone, dLenX, dLen, seqOf, dAbs, dMax2, dMin2, dInt, dTuple, dList, dCatL, dRepL, mSt, mStLen, mStCell, sSt, sSt3, drwGet, drwSet, mCh2, mCh3, mCount, dCount, Option.bind_some, Option.map_some, Option.bind_none, Option.map_none, List.getElem?_cons_zero, List.getElem?_cons_succ, List.set_cons_zero, List.set_cons_succ, List.map_cons, List.map_nil, List.cons_append, List.nil_append, List.replicate_succ, List.replicate_zero, List.length_cons, List.length_nil, if_true, if_false, reduceIte, Bool.false_eq_true, Bool.not_true, Bool.not_false, decide_true, decide_false, GD])
    (lc_as (g := gD) (f := fun g => gD (g.2.1, g.1, g.2.2)) (ks := gs) fun g hg => ⟨[.val (SD sp), .val (GD gs), .val (rowD (least sp gs)), .no, .no, .val (.int ((g.1 : Nat) : Int)), .val (.int ((g.2.1 : Nat) : Int)), .val (.int g.2.2), .no, .no], rfl, by
      have l3 : (3 : Nat) ≤ LB := by decide
      simp only [runM, runS, env0, flD, cal, sSeq, sIf, sRet, sRetN, sDrop, sAsg, sOwn, sFrz, frz, sPar, sPar3, sParF, sParF3, mkSl, sNx, sNo, sBk, sCt, sApp, sExt, sSetIx, sAug, sFor, sWhile, m1, m2, mC, mVar, mLook, mAnd, mOr, mNot, mIte, mB, mV, mTru, dTru, mAndV, mOrV, mNotV, mNil, mCons, mTup, mLst, mF, mFS, mItems, mRng, mRng1, mRng2, mRng3, dRng1, dRng2, dRng3, mEnum, mZip, mEnumA, mZipA, mCut, mNoP, mPt, mRev, mNeg, dNeg, dRev, dCut, mLc, mYes, pName, pTup, pTupL, pNil, pCons, wipeS, dAdd, dSub, dMul, dDiv, dMod, dMulI, dAddI, dCmp, dIsN, dNotN, isNone, dLenX, dLen, seqOf, dAbs, dMax2, dMin2, dInt, dTuple, dList, dCatL, dRepL, mSt, mStLen, mStCell, sSt, sSt3, drwGet, drwSet, mCh2, mCh3, mCount, dCount, Option.bind_some, Option.map_some, Option.bind_none, Option.map_none, List.getElem?_cons_zero, List.getElem?_cons_succ, List.set_cons_zero, List.set_cons_succ, List.map_cons, List.map_nil, List.cons_append, List.nil_append, List.replicate_succ, List.replicate_zero, List.length_cons, List.length_nil, if_true, if_false, reduceIte, Bool.false_eq_true, Bool.not_true, Bool.not_false, decide_true, decide_false, gD, Nat.zero_add, Nat.reduceAdd, if_pos l3]⟩) (by rw [List.length_map]; exact lb_of (by omega))
  have lc2 := mLc_of (mi := mItems (mLook 0)) (p := pName 8) (t := mYes) (e := mNeg (m2 dIx (mLook 8) (mC (.int 1)))) (vs := [8]) (S := [.val (SD sp), .val (GD gs), .val (rowD (least sp gs)), .val (GD (tgs gs)), .no, .no, .no, .no, .no, .no]) (w := w0) (w1 := w0) (by simp only [runM, runS, env0, flD, cal, sSeq, sIf, sRet, sRetN, sDrop, sAsg, sOwn, sFrz, frz, sPar, sPar3, sParF, sParF3, mkSl, sNx, sNo, sBk, sCt, sApp, sExt, sSetIx, sAug, sFor, sWhile, m1, m2, mC, mVar, mLook, mAnd, mOr, mNot, mIte, mB, mV, mTru, dTru, mAndV, mOrV, mNotV, mNil, mCons, mTup, mLst, mF, mFS, mItems, mRng, mRng1, mRng2, mRng3, dRng1, dRng2, dRng3, mEnum, mZip, mEnumA, mZipA, mCut, mNoP, mPt, mRev, mNeg, dNeg, dRev, dCut, mLc, mYes, pName, pTup, pTupL, pNil, pCons, wipeS, dAdd, dSub, dMul, dDiv, dMod, dMulI, dAddI, dCmp, dIsN, dNotN, isNone, dLenX, dLen, seqOf, dAbs, dMax2, dMin2, dInt, dTuple, dList, dCatL, dRepL, mSt, mStLen, mStCell, sSt, sSt3, drwGet, drwSet, mCh2, mCh3, mCount, dCount, Option.bind_some, Option.map_some, Option.bind_none, Option.map_none, List.getElem?_cons_zero, List.getElem?_cons_succ, List.set_cons_zero, List.set_cons_succ, List.map_cons, List.map_nil, List.cons_append, List.nil_append, List.replicate_succ, List.replicate_zero, List.length_cons, List.length_nil, if_true, if_false, reduceIte, Bool.false_eq_true, Bool.not_true, Bool.not_false, decide_true, decide_false, SD])
    (lc_as (g := sD) (f := fun s => .int (-s.2)) (ks := sp) fun s hs => ⟨[.val (SD sp), .val (GD gs), .val (rowD (least sp gs)), .val (GD (tgs gs)), .no, .no, .no, .no, .val (sD s), .no], rfl, by
      simp only [runM, runS, env0, flD, cal, sSeq, sIf, sRet, sRetN, sDrop, sAsg, sOwn, sFrz, frz, sPar, sPar3, sParF, sParF3, mkSl, sNx, sNo, sBk, sCt, sApp, sExt, sSetIx, sAug, sFor, sWhile, m1, m2, mC, mVar, mLook, mAnd, mOr, mNot, mIte, mB, mV, mTru, dTru, mAndV, mOrV, mNotV, mNil, mCons, mTup, mLst, mF, mFS, mItems, mRng, mRng1, mRng2, mRng3, dRng1, dRng2, dRng3, mEnum, mZip, mEnumA, mZipA, mCut, mNoP, mPt, mRev, mNeg, dNeg, dRev, dCut, mLc, mYes, pName, pTup, pTupL, pNil, pCons, wipeS, dAdd, dSub, dMul, dDiv, dMod, dMulI, dAddI, dCmp, dIsN, dNotN, isNone, dLenX, dLen, seqOf, dAbs, dMax2, dMin2, dInt, dTuple, dList, dCatL, dRepL, mSt, mStLen, mStCell, sSt, sSt3, drwGet, drwSet, mCh2, mCh3, mCount, dCount, Option.bind_some, Option.map_some, Option.bind_none, Option.map_none, List.getElem?_cons_zero, List.getElem?_cons_succ, List.set_cons_zero, List.set_cons_succ, List.map_cons, List.map_nil, List.cons_append, List.nil_append, List.replicate_succ, List.replicate_zero, List.length_cons, List.length_nil, if_true, if_false, reduceIte, Bool.false_eq_true, Bool.not_true, Bool.not_false, decide_true, decide_false, sD, ix_tup2_1]⟩) (by rw [List.length_map]; exact lb_of (by omega))
  have elos : (sp.map fun s => PyData.int (-s.2)) = (los (nsp sp)).map .int := by unfold los nsp; rw [List.map_map, List.map_map]; rfl
  rw [elos] at lc2
  have y1 : (least sp gs).length = sp.length := grow_len _
  have y2 : (grow (nsp sp) (tgs gs) sp.length).1.length = sp.length := by rw [grow_len, nsp_len]
  have lc3 := mLc_of (mi := mZipA (mLook 2) (mLook 4)) (p := pTup (pCons (pName 9) (pCons (pName 6) pNil))) (t := mYes) (e := mTup (mCons (mVar 9) (mCons (mNeg (mLook 6)) mNil))) (vs := [9, 6]) (S := [.val (SD sp), .val (GD gs), .val (rowD (least sp gs)), .val (GD (tgs gs)), .val (yD (grow (nsp sp) (tgs gs) sp.length).1), .no, .no, .no, .no, .no]) (w := w0) (w1 := w0)
    (ds := ((least sp gs).zip (grow (nsp sp) (tgs gs) sp.length).1).map fun p => .tuple [.int p.1, .int p.2]) (by simp only [runM, runS, env0, flD, cal, sSeq, sIf, sRet, sRetN, sDrop, sAsg, sOwn, sFrz, frz, sPar, sPar3, sParF, sParF3, mkSl, sNx, sNo, sBk, sCt, sApp, sExt, sSetIx, sAug, sFor, sWhile, m1, m2, mC, mVar, mLook, mAnd, mOr, mNot, mIte, mB, mV, mTru, dTru, mAndV, mOrV, mNotV, mNil, mCons, mTup, mLst, mF, mFS, mItems, mRng, mRng1, mRng2, mRng3, dRng1, dRng2, dRng3, mEnum, mZip, mEnumA, mZipA, mCut, mNoP, mPt, mRev, mNeg, dNeg, dRev, dCut, mLc, mYes, pName, pTup, pTupL, pNil, pCons, wipeS, dAdd, dSub, dMul, dDiv, dMod, dMulI, dAddI, dCmp, dIsN, dNotN, isNone, dLenX, dLen, seqOf, dAbs, dMax2, dMin2, dInt, dTuple, dList, dCatL, dRepL, mSt, mStLen, mStCell, sSt, sSt3, drwGet, drwSet, mCh2, mCh3, mCount, dCount, Option.bind_some, Option.map_some, Option.bind_none, Option.map_none, List.getElem?_cons_zero, List.getElem?_cons_succ, List.set_cons_zero, List.set_cons_succ, List.map_cons, List.map_nil, List.cons_append, List.nil_append, List.replicate_succ, List.replicate_zero, List.length_cons, List.length_nil, if_true, if_false, reduceIte, Bool.false_eq_true, Bool.not_true, Bool.not_false, decide_true, decide_false, rowD, yD, zipD_map])
    (lc_as (g := fun p : Int × Int => .tuple [.int p.1, .int p.2]) (f := fun p => .tuple [.int p.1, .int (-p.2)]) fun p hp => ⟨[.val (SD sp), .val (GD gs), .val (rowD (least sp gs)), .val (GD (tgs gs)), .val (yD (grow (nsp sp) (tgs gs) sp.length).1), .no, .val (.int p.2), .no, .no, .val (.int p.1)], rfl, by
      have l2 : (2 : Nat) ≤ LB := by decide
      simp only [runM, runS, env0, flD, cal, sSeq, sIf, sRet, sRetN, sDrop, sAsg, sOwn, sFrz, frz, sPar, sPar3, sParF, sParF3, mkSl, sNx, sNo, sBk, sCt, sApp, sExt, sSetIx, sAug, sFor, sWhile, m1, m2, mC, mVar, mLook, mAnd, mOr, mNot, mIte, mB, mV, mTru, dTru, mAndV, mOrV, mNotV, mNil, mCons, mTup, mLst, mF, mFS, mItems, mRng, mRng1, mRng2, mRng3, dRng1, dRng2, dRng3, mEnum, mZip, mEnumA, mZipA, mCut, mNoP, mPt, mRev, mNeg, dNeg, dRev, dCut, mLc, mYes, pName, pTup, pTupL, pNil, pCons, wipeS, dAdd, dSub, dMul, dDiv, dMod, dMulI, dAddI, dCmp, dIsN, dNotN, isNone, dLenX, dLen, seqOf, dAbs, dMax2, dMin2, dInt, dTuple, dList, dCatL, dRepL, mSt, mStLen, mStCell, sSt, sSt3, drwGet, drwSet, mCh2, mCh3, mCount, dCount, Option.bind_some, Option.map_some, Option.bind_none, Option.map_none, List.getElem?_cons_zero, List.getElem?_cons_succ, List.set_cons_zero, List.set_cons_succ, List.map_cons, List.map_nil, List.cons_append, List.nil_append, List.replicate_succ, List.replicate_zero, List.length_cons, List.length_nil, if_true, if_false, reduceIte, Bool.false_eq_true, Bool.not_true, Bool.not_false, decide_true, decide_false, Nat.zero_add, Nat.reduceAdd, if_pos l2]⟩) (by rw [List.length_map, List.length_zip]; exact lb_of (by omega))
  have fin : (((least sp gs).zip (grow (nsp sp) (tgs gs) sp.length).1).map fun p => PyData.tuple [.int p.1, .int (-p.2)]) = (bnds sp gs).map sD := by
    unfold bnds
    rw [List.map_map]
    refine List.ext_getElem (by simp [y1, y2]) fun i h1 h2 => ?_
    have hi : i < sp.length := by simpa using h2
    simp only [List.getElem_map, List.getElem_zip, List.getElem_range, Function.comp, sD]
    rw [A_get (by omega)]
    unfold most
    rw [A_ngx, lnl, A_get (by omega)]
  rw [fin] at lc3
  unfold G_bounds_of
  refine runM_rt [.val (SD sp), .val (GD gs), .no, .no, .no, .no, .no, .no, .no, .no] rfl ?_
  unfold m_bounds_of
  rw [seq_nx (sDrop_of (w1 := w0) (mF2_of (d := SD sp) (d2 := GD gs) (w1 := w0) (w2 := w0) (e := .none) rfl rfl (by show (if 2 = 2 then _ else _) = _; rw [if_pos rfl]; exact cr)))]
  rw [seq_nx (S1 := [.val (SD sp), .val (GD gs), .val (rowD (least sp gs)), .no, .no, .no, .no, .no, .no, .no]) (w1 := w0) (by simp only [runM, runS, env0, flD, cal, sSeq, sIf, sRet, sRetN, sDrop, sAsg, sOwn, sFrz, frz, sPar, sPar3, sParF, sParF3, mkSl, sNx, sNo, sBk, sCt, sApp, sExt, sSetIx, sAug, sFor, sWhile, m1, m2, mC, mVar, mLook, mAnd, mOr, mNot, mIte, mB, mV, mTru, dTru, mAndV, mOrV, mNotV, mNil, mCons, mTup, mLst, mF, mFS, mItems, mRng, mRng1, mRng2, mRng3, dRng1, dRng2, dRng3, mEnum, mZip, mEnumA, mZipA, mCut, mNoP, mPt, mRev, mNeg, dNeg, dRev, dCut, mLc, mYes, pName, pTup, pTupL, pNil, pCons, wipeS, dAdd, dSub, dMul, dDiv, dMod, dMulI, dAddI, dCmp, dIsN, dNotN, isNone, dLenX, dLen, seqOf, dAbs, dMax2, dMin2, dInt, dTuple, dList, dCatL, dRepL, mSt, mStLen, mStCell, sSt, sSt3, drwGet, drwSet, mCh2, mCh3, mCount, dCount, Option.bind_some, Option.map_some, Option.bind_none, Option.map_none, List.getElem?_cons_zero, List.getElem?_cons_succ, List.set_cons_zero, List.set_cons_succ, List.map_cons, List.map_nil, List.cons_append, List.nil_append, List.replicate_succ, List.replicate_zero, List.length_cons, List.length_nil, if_true, if_false, reduceIte, Bool.false_eq_true, Bool.not_true, Bool.not_false, decide_true, decide_false, Nat.zero_add, Nat.reduceAdd, j, ix_tup2_1])]
  rw [seq_nx (S1 := [.val (SD sp), .val (GD gs), .val (rowD (least sp gs)), .val (GD (tgs gs)), .no, .no, .no, .no, .no, .no]) (w1 := w0) (sAsg_of (mF1_of lc1 rfl) (by rw [GD_tgs]; rfl))]
  rw [seq_nx (S1 := [.val (SD sp), .val (GD gs), .val (rowD (least sp gs)), .val (GD (tgs gs)), .val (yD (grow (nsp sp) (tgs gs) sp.length).1), .no, .no, .no, .no, .no]) (w1 := w0) (sAsg_of (m2_of (mF3_of lc2 (d2 := GD (tgs gs)) (w2 := w0) rfl (d3 := .int ((sp.length : Nat) : Int)) (w3 := w0) (by simp only [runM, runS, env0, flD, cal, sSeq, sIf, sRet, sRetN, sDrop, sAsg, sOwn, sFrz, frz, sPar, sPar3, sParF, sParF3, mkSl, sNx, sNo, sBk, sCt, sApp, sExt, sSetIx, sAug, sFor, sWhile, m1, m2, mC, mVar, mLook, mAnd, mOr, mNot, mIte, mB, mV, mTru, dTru, mAndV, mOrV, mNotV, mNil, mCons, mTup, mLst, mF, mFS, mItems, mRng, mRng1, mRng2, mRng3, dRng1, dRng2, dRng3, mEnum, mZip, mEnumA, mZipA, mCut, mNoP, mPt, mRev, mNeg, dNeg, dRev, dCut, mLc, mYes, pName, pTup, pTupL, pNil, pCons, wipeS, dAdd, dSub, dMul, dDiv, dMod, dMulI, dAddI, dCmp, dIsN, dNotN, isNone, dLenX, dLen, seqOf, dAbs, dMax2, dMin2, dInt, dTuple, dList, dCatL, dRepL, mSt, mStLen, mStCell, sSt, sSt3, drwGet, drwSet, mCh2, mCh3, mCount, dCount, Option.bind_some, Option.map_some, Option.bind_none, Option.map_none, List.getElem?_cons_zero, List.getElem?_cons_succ, List.set_cons_zero, List.set_cons_succ, List.map_cons, List.map_nil, List.cons_append, List.nil_append, List.replicate_succ, List.replicate_zero, List.length_cons, List.length_nil, if_true, if_false, reduceIte, Bool.false_eq_true, Bool.not_true, Bool.not_false, decide_true, decide_false, SD, List.length_map]) (by show (if 3 = 3 then _ else _) = _; rw [if_pos rfl]; exact gr)) (d2 := .int 0) (w2 := w0) rfl rfl) rfl)]
  rw [sRet_of (mF1_of lc3 rfl)]
  exact ⟨_, _, rfl⟩
/-! ### count_years -/
def RD (rows : List (List Int)) : PyData := .list (rows.map rowD)
def Ec (sp bl : List Span) (gs : List Gap) (rows : List (List Int)) (a b c : Sl) : SEnv := [.val (SD sp), .val (GD gs), .val (SD bl), .val (RD rows), a, b, c, .no, .no]
theorem yrs_rng (s : Span) : rngD s.1 1 (s.2 + 1 - s.1).toNat = (yrs s).map .int := by rw [rngD_lo]; rfl
theorem dAdd_row (r : List Int) (y : Int) (h : r.length ≤ 100) : dAdd (rowD r) (.tuple [.int y]) = some (rowD (r ++ [y])) := by
  have hl : (r.map PyData.int).length + [PyData.int y].length ≤ LB := by rw [List.length_map, List.length_singleton]; exact lb_of (by omega)
  unfold rowD
  show (if (r.map PyData.int).length + [PyData.int y].length ≤ LB then some (PyData.tuple (r.map PyData.int ++ [PyData.int y])) else none) = _
  rw [if_pos hl, List.map_append]; rfl
theorem cnt_step {sp bl : List Span} {gs : List Gap} {rows : List (List Int)} {a : Sl} {s : Span} (h1 : -1000 ≤ s.1) (h2 : s.1 ≤ s.2) (h3 : s.2 ≤ 1000) (hr : ∀ r ∈ rows, r.length ≤ 100) (hc : (rows.length : Int) * (s.2 - s.1 + 1) ≤ 20000) :
    (sSeq (sIf (mB (m2 dGt (m2 dMul (mF dLenX (mCons (mLook 3) mNil)) (m2 dAdd (m2 dSub (mLook 6) (mLook 5)) (mC (PyData.int 1)))) (mC (PyData.int 20000)))) sNo sNx) (sSeq (sAsg (mLc2 (mItems (mLook 3)) (pName 7) mYes (mRng2 (mCons (mVar 5) (mCons (m2 dAdd (mLook 6) (mC (PyData.int 1))) mNil))) (pName 8) mYes (m2 dAdd (mLook 7) (mTup (mCons (mVar 8) mNil))) [7, 8] [8]) (pName 3)) (sAsg (mLc (mItems (mLook 3)) (pName 7) (mTru (mF (cal 2 G_suits) (mCons (mVar 7) (mCons (mVar 1) mNil)))) (mVar 7) [7]) (pName 3)))) (Ec sp bl gs rows a (.val (.int s.1)) (.val (.int s.2))) w0 = some (.nx, Ec sp bl gs ((grown1 rows s).filter (suitsB gs)) a (.val (.int s.1)) (.val (.int s.2)), w0) := by
  have w1 : 1 ≤ s.2 - s.1 + 1 := by omega
  have rl : (rows.length : Int) ≤ 20000 := by
    have : (rows.length : Int) * 1 ≤ rows.length * (s.2 - s.1 + 1) := Int.mul_le_mul_of_nonneg_left w1 (by omega)
    omega
  have mo : mulOk (rows.length : Int) (s.2 - s.1 + 1) := mulOk_l (by omega) (by omega)
  have c1 : ¬ (rows.length : Int) * (s.2 - s.1 + 1) > 20000 := by omega
  have s1 := smallI_of (i := s.1) (by omega) (by omega)
  have s2 := smallI_of (i := s.2 + 1) (by omega) (by omega)
  have gl : (grown1 rows s).length ≤ 20000 := by
    rw [grown1_len]
    have e : ((rows.length * (s.2 + 1 - s.1).toNat : Nat) : Int) = (rows.length : Int) * (s.2 - s.1 + 1) := by
      rw [Int.natCast_mul, Int.toNat_of_nonneg (by omega)]
      congr 1; omega
    omega
  have lc := mLc2_of (m0 := mItems (mLook 3)) (p := pName 7) (t := mYes) (mi := mRng2 (mCons (mVar 5) (mCons (m2 dAdd (mLook 6) (mC (.int 1))) mNil))) (p1 := pName 8) (t1 := mYes) (e := m2 dAdd (mLook 7) (mTup (mCons (mVar 8) mNil))) (vs := [7, 8]) (vs1 := [8]) (S := Ec sp bl gs rows a (.val (.int s.1)) (.val (.int s.2))) (w := w0) (w1 := w0) (ds := rows.map rowD) (by simp only [Ec, RD, runM, runS, env0, flD, cal, sSeq, sIf, sRet, sRetN, sDrop, sAsg, sOwn, sFrz, frz, sPar, sPar3, sParF, sParF3, mkSl, sNx, sNo, sBk, sCt, sApp, sExt, sSetIx, sAug, sFor, sWhile, m1, m2, mC, mVar, mLook, mAnd, mOr, mNot, mIte, mB, mV, mTru, dTru, mAndV, mOrV, mNotV, mNil, mCons, mTup, mLst, mF, mFS, mItems, mRng, mRng1, mRng2, mRng3, dRng1, dRng2, dRng3, mEnum, mZip, mEnumA, mZipA, mCut, mNoP, mPt, mRev, mNeg, dNeg, dRev, dCut, mLc, mYes, pName, pTup, pTupL, pNil, pCons, wipeS, dAdd, dSub, dMul, dDiv, dMod, dMulI, dAddI, dCmp, dIsN, dNotN, isNone, dLenX, dLen, seqOf, dAbs, dMax2, dMin2, dInt, dTuple, dList, dCatL, dRepL, mSt, mStLen, mStCell, sSt, sSt3, drwGet, drwSet, mCh2, mCh3, mCount, dCount, Option.bind_some, Option.map_some, Option.bind_none, Option.map_none, List.getElem?_cons_zero, List.getElem?_cons_succ, List.set_cons_zero, List.set_cons_succ, List.map_cons, List.map_nil, List.cons_append, List.nil_append, List.replicate_succ, List.replicate_zero, List.length_cons, List.length_nil, if_true, if_false, reduceIte, Bool.false_eq_true, Bool.not_true, Bool.not_false, decide_true, decide_false])
    (lc2_as (g := rowD) (ls := fun _ => yrs s) (g1 := .int) (f := fun r y => rowD (r ++ [y])) (ks := rows) fun r hr' => ⟨[.val (SD sp), .val (GD gs), .val (SD bl), .val (RD rows), a, .val (.int s.1), .val (.int s.2), .val (rowD r), .no], rfl, by
      simp only [runM, runS, env0, flD, cal, sSeq, sIf, sRet, sRetN, sDrop, sAsg, sOwn, sFrz, frz, sPar, sPar3, sParF, sParF3, mkSl, sNx, sNo, sBk, sCt, sApp, sExt, sSetIx, sAug, sFor, sWhile, m1, m2, mC, mVar, mLook, mAnd, mOr, mNot, mIte, mB, mV, mTru, dTru, mAndV, mOrV, mNotV, mNil, mCons, mTup, mLst, mF, mFS, mItems, mRng, mRng1, mRng2, mRng3, dRng1, dRng2, dRng3, mEnum, mZip, mEnumA, mZipA, mCut, mNoP, mPt, mRev, mNeg, dNeg, dRev, dCut, mLc, mYes, pName, pTup, pTupL, pNil, pCons, wipeS, dAdd, dSub, dMul, dDiv, dMod, dMulI, dAddI, dCmp, dIsN, dNotN, isNone, dLenX, dLen, seqOf, dAbs, dMax2, dMin2, dInt, dTuple, dList, dCatL, dRepL, mSt, mStLen, mStCell, sSt, sSt3, drwGet, drwSet, mCh2, mCh3, mCount, dCount, Option.bind_some, Option.map_some, Option.bind_none, Option.map_none, List.getElem?_cons_zero, List.getElem?_cons_succ, List.set_cons_zero, List.set_cons_succ, List.map_cons, List.map_nil, List.cons_append, List.nil_append, List.replicate_succ, List.replicate_zero, List.length_cons, List.length_nil, if_true, if_false, reduceIte, Bool.false_eq_true, Bool.not_true, Bool.not_false, decide_true, decide_false, s1, s2]
      rw [← yrs_rng]
      rfl, fun y hy => ⟨[.val (SD sp), .val (GD gs), .val (SD bl), .val (RD rows), a, .val (.int s.1), .val (.int s.2), .val (rowD r), .val (.int y)], rfl, by
      have e := dAdd_row r y (hr r hr')
      have l1 : (1 : Nat) ≤ LB := by decide
      exact m2_of (d := rowD r) rfl (d2 := .tuple [.int y]) (w2 := w0) (by simp only [runM, runS, env0, flD, cal, sSeq, sIf, sRet, sRetN, sDrop, sAsg, sOwn, sFrz, frz, sPar, sPar3, sParF, sParF3, mkSl, sNx, sNo, sBk, sCt, sApp, sExt, sSetIx, sAug, sFor, sWhile, m1, m2, mC, mVar, mLook, mAnd, mOr, mNot, mIte, mB, mV, mTru, dTru, mAndV, mOrV, mNotV, mNil, mCons, mTup, mLst, mF, mFS, mItems, mRng, mRng1, mRng2, mRng3, dRng1, dRng2, dRng3, mEnum, mZip, mEnumA, mZipA, mCut, mNoP, mPt, mRev, mNeg, dNeg, dRev, dCut, mLc, mYes, pName, pTup, pTupL, pNil, pCons, wipeS, dAdd, dSub, dMul, dDiv, dMod, dMulI, dAddI, dCmp, dIsN, dNotN, isNone, dLenX, dLen, seqOf, dAbs, dMax2, dMin2, dInt, dTuple, dList, dCatL, dRepL, mSt, mStLen, mStCell, sSt, sSt3, drwGet, drwSet, mCh2, mCh3, mCount, dCount, Option.bind_some, Option.map_some, Option.bind_none, Option.map_none, List.getElem?_cons_zero, List.getElem?_cons_succ, List.set_cons_zero, List.set_cons_succ, List.map_cons, List.map_nil, List.cons_append, List.nil_append, List.replicate_succ, List.replicate_zero, List.length_cons, List.length_nil, if_true, if_false, reduceIte, Bool.false_eq_true, Bool.not_true, Bool.not_false, decide_true, decide_false, Nat.zero_add, if_pos l1]) e⟩⟩) (by
      have : (rows.flatMap fun k => (yrs s).map fun y => rowD (k ++ [y])) = (grown1 rows s).map rowD := by unfold grown1; rw [List.map_flatMap]; congr 1; funext r; rw [List.map_map]; rfl
      rw [this, List.length_map]; exact lb_of (by omega))
  have eg : (rows.flatMap fun k => (yrs s).map fun y => rowD (k ++ [y])) = (grown1 rows s).map rowD := by unfold grown1; rw [List.map_flatMap]; congr 1; funext r; rw [List.map_map]; rfl
  rw [eg] at lc
  have lc2 := mLc_of (mi := mItems (mLook 3)) (p := pName 7) (t := mTru (mF (cal 2 G_suits) (mCons (mVar 7) (mCons (mVar 1) mNil)))) (e := mVar 7) (vs := [7]) (S := Ec sp bl gs (grown1 rows s) a (.val (.int s.1)) (.val (.int s.2))) (w := w0) (w1 := w0) (ds := (grown1 rows s).map rowD) (by simp only [Ec, RD, runM, runS, env0, flD, cal, sSeq, sIf, sRet, sRetN, sDrop, sAsg, sOwn, sFrz, frz, sPar, sPar3, sParF, sParF3, mkSl, sNx, sNo, sBk, sCt, sApp, sExt, sSetIx, sAug, sFor, sWhile, m1, m2, mC, mVar, mLook, mAnd, mOr, mNot, mIte, mB, mV, mTru, dTru, mAndV, mOrV, mNotV, mNil, mCons, mTup, mLst, mF, mFS, mItems, mRng, mRng1, mRng2, mRng3, dRng1, dRng2, dRng3, mEnum, mZip, mEnumA, mZipA, mCut, mNoP, mPt, mRev, mNeg, dNeg, dRev, dCut, mLc, mYes, pName, pTup, pTupL, pNil, pCons, wipeS, dAdd, dSub, dMul, dDiv, dMod, dMulI, dAddI, dCmp, dIsN, dNotN, isNone, dLenX, dLen, seqOf, dAbs, dMax2, dMin2, dInt, dTuple, dList, dCatL, dRepL, mSt, mStLen, mStCell, sSt, sSt3, drwGet, drwSet, mCh2, mCh3, mCount, dCount, Option.bind_some, Option.map_some, Option.bind_none, Option.map_none, List.getElem?_cons_zero, List.getElem?_cons_succ, List.set_cons_zero, List.set_cons_succ, List.map_cons, List.map_nil, List.cons_append, List.nil_append, List.replicate_succ, List.replicate_zero, List.length_cons, List.length_nil, if_true, if_false, reduceIte, Bool.false_eq_true, Bool.not_true, Bool.not_false, decide_true, decide_false])
    (lc_asF (g := rowD) (f := rowD) (c := suitsB gs) (ks := grown1 rows s) fun r _ => ⟨[.val (SD sp), .val (GD gs), .val (SD bl), .val (RD (grown1 rows s)), a, .val (.int s.1), .val (.int s.2), .val (rowD r), .no], rfl,
      mTru_of (mF2_of (d := rowD r) (d2 := GD gs) (w1 := w0) (w2 := w0) rfl rfl (by show (if 2 = 2 then _ else _) = _; rw [if_pos rfl]; exact ev_suits gs r)) rfl, fun _ => rfl⟩) (by
      rw [List.length_map]
      have := List.length_filter_le (suitsB gs) (grown1 rows s)
      exact lb_of (by omega))
  rw [seq_nx (if_no (w1 := w0) (by
    simp only [Ec, RD, runM, runS, env0, flD, cal, sSeq, sIf, sRet, sRetN, sDrop, sAsg, sOwn, sFrz, frz, sPar, sPar3, sParF, sParF3, mkSl, sNx, sNo, sBk, sCt, sApp, sExt, sSetIx, sAug, sFor, sWhile, m1, m2, mC, mVar, mLook, mAnd, mOr, mNot, mIte, mB, mV, mTru, dTru, mAndV, mOrV, mNotV, mNil, mCons, mTup, mLst, mF, mFS, mItems, mRng, mRng1, mRng2, mRng3, dRng1, dRng2, dRng3, mEnum, mZip, mEnumA, mZipA, mCut, mNoP, mPt, mRev, mNeg, dNeg, dRev, dCut, mLc, mYes, pName, pTup, pTupL, pNil, pCons, wipeS, dAdd, dSub, dMul, dDiv, dMod, dMulI, dAddI, dCmp, dIsN, dNotN, isNone, dLenX, dLen, seqOf, dAbs, dMax2, dMin2, dInt, dTuple, dList, dCatL, dRepL, mSt, mStLen, mStCell, sSt, sSt3, drwGet, drwSet, mCh2, mCh3, mCount, dCount, Option.bind_some, Option.map_some, Option.bind_none, Option.map_none, List.getElem?_cons_zero, List.getElem?_cons_succ, List.set_cons_zero, List.set_cons_succ, List.map_cons, List.map_nil, List.cons_append, List.nil_append, List.replicate_succ, List.replicate_zero, List.length_cons, List.length_nil, if_true, if_false, reduceIte, Bool.false_eq_true, Bool.not_true, Bool.not_false, decide_true, decide_false, List.length_map, if_pos mo]
    simp only [runM, runS, env0, flD, cal, sSeq, sIf, sRet, sRetN, sDrop, sAsg, sOwn, sFrz, frz, sPar, sPar3, sParF, sParF3, mkSl, sNx, sNo, sBk, sCt, sApp, sExt, sSetIx, sAug, sFor, sWhile, m1, m2, mC, mVar, mLook, mAnd, mOr, mNot, mIte, mB, mV, mTru, dTru, mAndV, mOrV, mNotV, mNil, mCons, mTup, mLst, mF, mFS, mItems, mRng, mRng1, mRng2, mRng3, dRng1, dRng2, dRng3, mEnum, mZip, mEnumA, mZipA, mCut, mNoP, mPt, mRev, mNeg, dNeg, dRev, dCut, mLc, mYes, pName, pTup, pTupL, pNil, pCons, wipeS, dAdd, dSub, dMul, dDiv, dMod, dMulI, dAddI, dCmp, dIsN, dNotN, isNone, dLenX, dLen, seqOf, dAbs, dMax2, dMin2, dInt, dTuple, dList, dCatL, dRepL, mSt, mStLen, mStCell, sSt, sSt3, drwGet, drwSet, mCh2, mCh3, mCount, dCount, Option.bind_some, Option.map_some, Option.bind_none, Option.map_none, List.getElem?_cons_zero, List.getElem?_cons_succ, List.set_cons_zero, List.set_cons_succ, List.map_cons, List.map_nil, List.cons_append, List.nil_append, List.replicate_succ, List.replicate_zero, List.length_cons, List.length_nil, if_true, if_false, reduceIte, Bool.false_eq_true, Bool.not_true, Bool.not_false, decide_true, decide_false, c1])), seq_nx (sAsg_of lc rfl)]
  show sAsg _ _ (Ec sp bl gs (grown1 rows s) a (.val (.int s.1)) (.val (.int s.2))) w0 = _
  rw [sAsg_of lc2 rfl]
  rfl
theorem cnt_loop {sp bl : List Span} {gs : List Gap} (hb : ∀ s ∈ bl, -1000 ≤ s.1 ∧ s.1 ≤ s.2 ∧ s.2 ≤ 1000) (hl : bl.length ≤ 7) (hc : CountOk gs bl) : ∀ (post pre : List Span) (x4 x5 x6 : Sl), bl = pre ++ post → ∃ y4 y5 y6,
    forGo (pTup (pCons (pName 4) (pCons (pTup (pCons (pName 5) (pCons (pName 6) pNil))) pNil))) (sSeq (sIf (mB (m2 dGt (m2 dMul (mF dLenX (mCons (mLook 3) mNil)) (m2 dAdd (m2 dSub (mLook 6) (mLook 5)) (mC (PyData.int 1)))) (mC (PyData.int 20000)))) sNo sNx) (sSeq (sAsg (mLc2 (mItems (mLook 3)) (pName 7) mYes (mRng2 (mCons (mVar 5) (mCons (m2 dAdd (mLook 6) (mC (PyData.int 1))) mNil))) (pName 8) mYes (m2 dAdd (mLook 7) (mTup (mCons (mVar 8) mNil))) [7, 8] [8]) (pName 3)) (sAsg (mLc (mItems (mLook 3)) (pName 7) (mTru (mF (cal 2 G_suits) (mCons (mVar 7) (mCons (mVar 1) mNil)))) (mVar 7) [7]) (pName 3)))) (enumD pre.length (post.map sD)) (Ec sp bl gs (cntRows gs pre) x4 x5 x6) w0 = some (.nx, Ec sp bl gs (cntRows gs bl) y4 y5 y6, w0)
  | [], pre, x4, x5, x6, e => by
    rw [List.append_nil] at e
    subst e
    exact ⟨x4, x5, x6, rfl⟩
  | s :: post, pre, x4, x5, x6, e => by
    have hs : s ∈ bl := by rw [e]; simp
    obtain ⟨b1, b2, b3⟩ := hb s hs
    have st := cnt_step (sp := sp) (bl := bl) (gs := gs) (rows := cntRows gs pre) (a := .val (.int ((pre.length : Nat) : Int))) b1 b2 b3 (fun r hr => by
      have := (((cntRows_ok gs pre).2 r).mp hr).1.1
      have : pre.length ≤ bl.length := by rw [e]; simp
      omega) (hc pre s post e)
    rw [← cntRows_snoc] at st
    obtain ⟨y4, y5, y6, ih⟩ := cnt_loop (sp := sp) hb hl hc post (pre ++ [s]) (.val (.int ((pre.length : Nat) : Int))) (.val (.int s.1)) (.val (.int s.2)) (by rw [e]; simp)
    refine ⟨y4, y5, y6, ?_⟩
    have pe : pTup (pCons (pName 4) (pCons (pTup (pCons (pName 5) (pCons (pName 6) pNil))) pNil)) (.tuple [.int ((pre.length : Nat) : Int), sD s]) (Ec sp bl gs (cntRows gs pre) x4 x5 x6) = some (Ec sp bl gs (cntRows gs pre) (.val (.int ((pre.length : Nat) : Int))) (.val (.int s.1)) (.val (.int s.2))) := rfl
    rw [List.map_cons, enumD, forGo_cons, pe, Option.bind_some, st]
    rw [List.length_append, List.length_singleton] at ih
    exact ih
theorem bnds_ok {sp : List Span} {gs : List Gap} (h : Sys sp gs) {x : List Int} (hx : Sol sp gs x) : ∀ s ∈ bnds sp gs, -1000 ≤ s.1 ∧ s.1 ≤ s.2 ∧ s.2 ≤ 1000 := fun s hs => by
  unfold bnds at hs
  obtain ⟨k, hk, rfl⟩ := List.mem_map.mp hs
  have hk := List.mem_range.mp hk
  obtain ⟨_, l2, l3⟩ := least_sol h hx
  obtain ⟨m2', m3⟩ := most_sol h hx
  have a := l2.low k hk
  have b := m2'.high k hk
  have c := l3 k
  have d := m3 k
  have e := slo_shi h hk
  exact ⟨by simp only; omega, by simp only; omega, by simp only; omega⟩
theorem ev_count {sp : List Span} {gs : List Gap} (h : Sys sp gs) {x : List Int} (hx : Sol sp gs x) (hc : CountOk gs (bnds sp gs)) : G_count_years [SD sp, GD gs] = some (.int (((cntRows gs (bnds sp gs)).length : Nat) : Int)) := by
  have j := judged_years h hx
  have b := ev_bounds h hx
  obtain ⟨y4, y5, y6, lp⟩ := cnt_loop (sp := sp) (bnds_ok h hx) (by rw [bnds_len]; exact h.few) hc (bnds sp gs) [] .no .no .no rfl
  unfold G_count_years
  refine runM_rt [.val (SD sp), .val (GD gs), .no, .no, .no, .no, .no, .no, .no] rfl ?_
  unfold m_count_years
  rw [seq_nx (if_no (w1 := w0) (by simp only [runM, runS, env0, flD, cal, sSeq, sIf, sRet, sRetN, sDrop, sAsg, sOwn, sFrz, frz, sPar, sPar3, sParF, sParF3, mkSl, sNx, sNo, sBk, sCt, sApp, sExt, sSetIx, sAug, sFor, sWhile, m1, m2, mC, mVar, mLook, mAnd, mOr, mNot, mIte, mB, mV, mTru, dTru, mAndV, mOrV, mNotV, mNil, mCons, mTup, mLst, mF, mFS, mItems, mRng, mRng1, mRng2, mRng3, dRng1, dRng2, dRng3, mEnum, mZip, mEnumA, mZipA, mCut, mNoP, mPt, mRev, mNeg, dNeg, dRev, dCut, mLc, mYes, pName, pTup, pTupL, pNil, pCons, wipeS, dAdd, dSub, dMul, dDiv, dMod, dMulI, dAddI, dCmp, dIsN, dNotN, isNone, dLenX, dLen, seqOf, dAbs, dMax2, dMin2, dInt, dTuple, dList, dCatL, dRepL, mSt, mStLen, mStCell, sSt, sSt3, drwGet, drwSet, mCh2, mCh3, mCount, dCount, Option.bind_some, Option.map_some, Option.bind_none, Option.map_none, List.getElem?_cons_zero, List.getElem?_cons_succ, List.set_cons_zero, List.set_cons_succ, List.map_cons, List.map_nil, List.cons_append, List.nil_append, List.replicate_succ, List.replicate_zero, List.length_cons, List.length_nil, if_true, if_false, reduceIte, Bool.false_eq_true, Bool.not_true, Bool.not_false, decide_true, decide_false, Nat.zero_add, Nat.reduceAdd, j, ix_tup2_0, ne_years]))]
  rw [seq_nx (S1 := [.val (SD sp), .val (GD gs), .val (SD (bnds sp gs)), .no, .no, .no, .no, .no, .no]) (w1 := w0) (by simp only [runM, runS, env0, flD, cal, sSeq, sIf, sRet, sRetN, sDrop, sAsg, sOwn, sFrz, frz, sPar, sPar3, sParF, sParF3, mkSl, sNx, sNo, sBk, sCt, sApp, sExt, sSetIx, sAug, sFor, sWhile, m1, m2, mC, mVar, mLook, mAnd, mOr, mNot, mIte, mB, mV, mTru, dTru, mAndV, mOrV, mNotV, mNil, mCons, mTup, mLst, mF, mFS, mItems, mRng, mRng1, mRng2, mRng3, dRng1, dRng2, dRng3, mEnum, mZip, mEnumA, mZipA, mCut, mNoP, mPt, mRev, mNeg, dNeg, dRev, dCut, mLc, mYes, pName, pTup, pTupL, pNil, pCons, wipeS, dAdd, dSub, dMul, dDiv, dMod, dMulI, dAddI, dCmp, dIsN, dNotN, isNone, dLenX, dLen, seqOf, dAbs, dMax2, dMin2, dInt, dTuple, dList, dCatL, dRepL, mSt, mStLen, mStCell, sSt, sSt3, drwGet, drwSet, mCh2, mCh3, mCount, dCount, Option.bind_some, Option.map_some, Option.bind_none, Option.map_none, List.getElem?_cons_zero, List.getElem?_cons_succ, List.set_cons_zero, List.set_cons_succ, List.map_cons, List.map_nil, List.cons_append, List.nil_append, List.replicate_succ, List.replicate_zero, List.length_cons, List.length_nil, if_true, if_false, reduceIte, Bool.false_eq_true, Bool.not_true, Bool.not_false, decide_true, decide_false, Nat.zero_add, Nat.reduceAdd, b])]
  have l0 : (0 : Nat) ≤ LB := by decide
  have l1 : (1 : Nat) ≤ LB := by decide
  rw [seq_nx (S1 := Ec sp (bnds sp gs) gs (cntRows gs []) .no .no .no) (w1 := w0) (by simp only [runM, runS, env0, flD, cal, sSeq, sIf, sRet, sRetN, sDrop, sAsg, sOwn, sFrz, frz, sPar, sPar3, sParF, sParF3, mkSl, sNx, sNo, sBk, sCt, sApp, sExt, sSetIx, sAug, sFor, sWhile, m1, m2, mC, mVar, mLook, mAnd, mOr, mNot, mIte, mB, mV, mTru, dTru, mAndV, mOrV, mNotV, mNil, mCons, mTup, mLst, mF, mFS, mItems, mRng, mRng1, mRng2, mRng3, dRng1, dRng2, dRng3, mEnum, mZip, mEnumA, mZipA, mCut, mNoP, mPt, mRev, mNeg, dNeg, dRev, dCut, mLc, mYes, pName, pTup, pTupL, pNil, pCons, wipeS, dAdd, dSub, dMul, dDiv, dMod, dMulI, dAddI, dCmp, dIsN, dNotN, isNone, dLenX, dLen, seqOf, dAbs, dMax2, dMin2, dInt, dTuple, dList, dCatL, dRepL, mSt, mStLen, mStCell, sSt, sSt3, drwGet, drwSet, mCh2, mCh3, mCount, dCount, Option.bind_some, Option.map_some, Option.bind_none, Option.map_none, List.getElem?_cons_zero, List.getElem?_cons_succ, List.set_cons_zero, List.set_cons_succ, List.map_cons, List.map_nil, List.cons_append, List.nil_append, List.replicate_succ, List.replicate_zero, List.length_cons, List.length_nil, if_true, if_false, reduceIte, Bool.false_eq_true, Bool.not_true, Bool.not_false, decide_true, decide_false, Ec, Nat.zero_add, Nat.reduceAdd, if_pos l0, if_pos l1]; rfl)]
  rw [seq_nx (sFor_of (ds := enumD 0 ((bnds sp gs).map sD)) (w1 := w0) (by simp only [Ec, runM, runS, env0, flD, cal, sSeq, sIf, sRet, sRetN, sDrop, sAsg, sOwn, sFrz, frz, sPar, sPar3, sParF, sParF3, mkSl, sNx, sNo, sBk, sCt, sApp, sExt, sSetIx, sAug, sFor, sWhile, m1, m2, mC, mVar, mLook, mAnd, mOr, mNot, mIte, mB, mV, mTru, dTru, mAndV, mOrV, mNotV, mNil, mCons, mTup, mLst, mF, mFS, mItems, mRng, mRng1, mRng2, mRng3, dRng1, dRng2, dRng3, mEnum, mZip, mEnumA, mZipA, mCut, mNoP, mPt, mRev, mNeg, dNeg, dRev, dCut, mLc, mYes, pName, pTup, pTupL, pNil, pCons, wipeS, dAdd, dSub, dMul, dDiv, dMod, dMulI, dAddI, dCmp, dIsN, dNotN, isNone, dLenX, dLen, seqOf, dAbs, dMax2, dMin2, dInt, dTuple, dList, dCatL, dRepL, mSt, mStLen, mStCell, sSt, sSt3, drwGet, drwSet, mCh2, mCh3, mCount, dCount, Option.bind_some, Option.map_some, Option.bind_none, Option.map_none, List.getElem?_cons_zero, List.getElem?_cons_succ, List.set_cons_zero, List.set_cons_succ, List.map_cons, List.map_nil, List.cons_append, List.nil_append, List.replicate_succ, List.replicate_zero, List.length_cons, List.length_nil, if_true, if_false, reduceIte, Bool.false_eq_true, Bool.not_true, Bool.not_false, decide_true, decide_false, SD]) lp)]
  simp only [Ec, runM, runS, env0, flD, cal, sSeq, sIf, sRet, sRetN, sDrop, sAsg, sOwn, sFrz, frz, sPar, sPar3, sParF, sParF3, mkSl, sNx, sNo, sBk, sCt, sApp, sExt, sSetIx, sAug, sFor, sWhile, m1, m2, mC, mVar, mLook, mAnd, mOr, mNot, mIte, mB, mV, mTru, dTru, mAndV, mOrV, mNotV, mNil, mCons, mTup, mLst, mF, mFS, mItems, mRng, mRng1, mRng2, mRng3, dRng1, dRng2, dRng3, mEnum, mZip, mEnumA, mZipA, mCut, mNoP, mPt, mRev, mNeg, dNeg, dRev, dCut, mLc, mYes, pName, pTup, pTupL, pNil, pCons, wipeS, dAdd, dSub, dMul, dDiv, dMod, dMulI, dAddI, dCmp, dIsN, dNotN, isNone, dLenX, dLen, seqOf, dAbs, dMax2, dMin2, dInt, dTuple, dList, dCatL, dRepL, mSt, mStLen, mStCell, sSt, sSt3, drwGet, drwSet, mCh2, mCh3, mCount, dCount, Option.bind_some, Option.map_some, Option.bind_none, Option.map_none, List.getElem?_cons_zero, List.getElem?_cons_succ, List.set_cons_zero, List.set_cons_succ, List.map_cons, List.map_nil, List.cons_append, List.nil_append, List.replicate_succ, List.replicate_zero, List.length_cons, List.length_nil, if_true, if_false, reduceIte, Bool.false_eq_true, Bool.not_true, Bool.not_false, decide_true, decide_false, RD, List.length_map]
  exact ⟨_, _, rfl⟩
theorem eqv_str (a b : Str) : PyData.eqv (.str a) (.str b) = (a == b) := by simp [PyData.eqv]
theorem ne_str {a b : Str} (h : (a == b) = false) : dNe (.str a) (.str b) = some (.bool true) := by
  unfold dNe
  rw [if_pos ⟨rfl, rfl⟩, eqv_str, h]; rfl
theorem eq_str {a b : Str} (h : (a == b) = false) : dEq (.str a) (.str b) = some (.bool false) := by
  unfold dEq
  rw [if_pos ⟨rfl, rfl⟩, eqv_str, h]
theorem ev_count_none {sp : List Span} {gs : List Gap} (h : Sys sp gs) (hx : ∀ x, ¬ Sol sp gs x) : G_count_years [SD sp, GD gs] = some (.int 0) := by
  obtain ⟨d, h1, h2⟩ := ev_judge h
  have ne : ∃ k z, d = .tuple [.str k, z] ∧ dNe (.str k) (.str "years") = some (.bool true) := by
    cases h2 with
    | ring => exact ⟨_, _, rfl, ne_str (by decide +kernel)⟩
    | late => exact ⟨_, _, rfl, ne_str (by decide +kernel)⟩
    | years q => exact absurd q (hx _)
  obtain ⟨k, z, rfl, ne⟩ := ne
  unfold G_count_years
  refine runM_rt [.val (SD sp), .val (GD gs), .no, .no, .no, .no, .no, .no, .no] rfl ?_
  unfold m_count_years
  rw [seq_rt (d := .int 0) (S1 := [.val (SD sp), .val (GD gs), .no, .no, .no, .no, .no, .no, .no]) (w1 := w0) (by
    rw [if_yes (w1 := w0) (by simp only [runM, runS, env0, flD, cal, sSeq, sIf, sRet, sRetN, sDrop, sAsg, sOwn, sFrz, frz, sPar, sPar3, sParF, sParF3, mkSl, sNx, sNo, sBk, sCt, sApp, sExt, sSetIx, sAug, sFor, sWhile, m1, m2, mC, mVar, mLook, mAnd, mOr, mNot, mIte, mB, mV, mTru, dTru, mAndV, mOrV, mNotV, mNil, mCons, mTup, mLst, mF, mFS, mItems, mRng, mRng1, mRng2, mRng3, dRng1, dRng2, dRng3, mEnum, mZip, mEnumA, mZipA, mCut, mNoP, mPt, mRev, mNeg, dNeg, dRev, dCut, mLc, mYes, pName, pTup, pTupL, pNil, pCons, wipeS, dAdd, dSub, dMul, dDiv, dMod, dMulI, dAddI, dCmp, dIsN, dNotN, isNone, dLenX, dLen, seqOf, dAbs, dMax2, dMin2, dInt, dTuple, dList, dCatL, dRepL, mSt, mStLen, mStCell, sSt, sSt3, drwGet, drwSet, mCh2, mCh3, mCount, dCount, Option.bind_some, Option.map_some, Option.bind_none, Option.map_none, List.getElem?_cons_zero, List.getElem?_cons_succ, List.set_cons_zero, List.set_cons_succ, List.map_cons, List.map_nil, List.cons_append, List.nil_append, List.replicate_succ, List.replicate_zero, List.length_cons, List.length_nil, if_true, if_false, reduceIte, Bool.false_eq_true, Bool.not_true, Bool.not_false, decide_true, decide_false, Nat.zero_add, Nat.reduceAdd, h1, ix_tup2_0, ne])]
    rfl)]
  exact ⟨_, _, rfl⟩
end K64

set_option Elab.async false
set_option linter.all false
set_option maxRecDepth 100000
set_option maxHeartbeats 4000000
set_option exponentiation.threshold 10000
namespace K64
open PySem PySem.Spec PyProof.Rows L2 Mini
theorem ev_same {d : PyData} (h : okShow d = true) : G_L_same [d, d] = some (.bool true) := by
  have h8 : shp 8 d = true := by
    unfold okShow at h
    rw [Bool.and_eq_true, Bool.and_eq_true] at h
    exact h.1.1
  have e1 := dEq_refl h8
  have e2 : dRepr [d] = some (.str d.shown) := if_pos h
  have e3 : dEq (.str d.shown) (.str d.shown) = some (.bool true) := dEq_refl rfl
  simp only [G_L_same, m_L_same, runM, runS, env0, flD, cal, sSeq, sIf, sRet, sRetN, sDrop, sAsg, sOwn, sFrz, frz, sPar, sPar3, sParF, sParF3, mkSl, sNx, sNo, sBk, sCt, sApp, sExt, sSetIx, sAug, sFor, sWhile, m1, m2, mC, mVar, mLook, mAnd, mOr, mNot, mIte, mB, mV, mTru, dTru, mAndV, mOrV, mNotV, mNil, mCons, mTup, mLst, mF, mFS, mItems, mRng, mRng1, mRng2, mRng3, dRng1, dRng2, dRng3, mEnum, mZip, mEnumA, mZipA, mCut, mNoP, mPt, mRev, mNeg, dNeg, dRev, dCut, mLc, mYes, pName, pTup, pTupL, pNil, pCons, wipeS, dAdd, dSub, dMul, dDiv, dMod, dMulI, dAddI, dCmp, dIsN, dNotN, isNone, dLenX, dLen, seqOf, dAbs, dMax2, dMin2, dInt, dTuple, dList, dCatL, dRepL, mSt, mStLen, mStCell, sSt, sSt3, drwGet, drwSet, mCh2, mCh3, mCount, dCount, Option.bind_some, Option.map_some, Option.bind_none, Option.map_none, List.getElem?_cons_zero, List.getElem?_cons_succ, List.set_cons_zero, List.set_cons_succ, List.map_cons, List.map_nil, List.cons_append, List.nil_append, List.replicate_succ, List.replicate_zero, List.length_cons, List.length_nil, if_true, if_false, reduceIte, Bool.false_eq_true, Bool.not_true, Bool.not_false, decide_true, decide_false, e1, e2, e3]
theorem log_small {i : Int} (h1 : -5000 ≤ i) (h2 : i ≤ 5000) : i.natAbs.log2 < 1920 := by
  by_cases z : i.natAbs = 0
  · rw [z]; decide
  · exact (Nat.log2_lt z).mpr (Nat.lt_of_le_of_lt (show i.natAbs ≤ 5000 by omega) (by have : (2 : Nat) ^ 13 ≤ 2 ^ 1920 := Nat.pow_le_pow_right (by decide) (by decide); omega))
theorem okShow_sp {bl : List Span} (hl : bl.length ≤ 100) (h : ∀ s ∈ bl, -5000 ≤ s.1 ∧ s.1 ≤ 5000 ∧ -5000 ≤ s.2 ∧ s.2 ≤ 5000) : okShow (SD bl) = true := by
  have all : ∀ ks : List Span, (∀ s ∈ ks, -5000 ≤ s.1 ∧ s.1 ≤ 5000 ∧ -5000 ≤ s.2 ∧ s.2 ≤ 5000) → (ks.map sD).all (shp 7) = true ∧ PyData.showableAll (ks.map sD) = true ∧ wtA (ks.map sD) = ks.length * 3851 := fun ks => by
    induction ks with
    | nil => intro _; exact ⟨rfl, rfl, rfl⟩
    | cons k ks ih =>
      intro hh
      obtain ⟨a, b, e⟩ := ih fun x hx => hh x (List.mem_cons_of_mem _ hx)
      obtain ⟨q1, q2, q3, q4⟩ := hh k List.mem_cons_self
      refine ⟨?_, ?_, ?_⟩
      · rw [List.map_cons, List.all_cons, a]; rfl
      · have f1 : PyData.showable (sD k) = true := by simp only [sD, PyData.showable, PyData.showableAll, log_small q1 q2, log_small q3 q4, decide_true, Bool.and_self]
        rw [List.map_cons]
        simp only [PyData.showableAll, b, f1, Bool.and_self]
      · have f2 : Mini.wt (sD k) = 3849 := by simp only [sD, Mini.wt, wtA]
        rw [List.map_cons]
        simp only [wtA, e, f2, List.length_cons, Nat.add_mul]
        omega
  obtain ⟨a, b, e⟩ := all bl h
  unfold okShow SD
  rw [show shp 8 (.tuple (bl.map sD)) = true from a]
  simp only [PyData.showable, b, Mini.wt, e, Bool.true_and]
  exact decide_eq_true (by omega)
structure RowsOf (sp : List Span) (gs : List Gap) (rows : List (List Int)) : Prop where
  nd : rows.Nodup
  mem : ∀ x, x ∈ rows ↔ Sol sp gs x
  few : rows.length ≤ 100000
  cnt : rows ≠ [] → CountOk gs (bnds sp gs)
theorem shp_RD (rows : List (List Int)) : shp 8 (RD rows) = true := by
  show (rows.map rowD).all (shp 7) = true
  rw [List.all_map]
  exact List.all_eq_true.mpr fun r _ => shp_ints 6 r
theorem shp_RD' (rows : List (List Int)) : (rows.map rowD).all (shp 8) = true := shp_rows rows
theorem shp_row {n : Nat} (x : List Int) : shp (n + 1) (rowD x) = true := shp_ints n x
theorem eq_nil {r : List Int} {rows : List (List Int)} : dEq (RD (r :: rows)) (.list []) = some (.bool false) := by
  unfold dEq
  rw [if_pos ⟨shp_RD _, rfl⟩]
  rfl
/-- the least, or the greatest, by places -/
theorem lc_low {g : PyData → List PyData → PyData} {sp : List Span} {rows : List (List Int)} {S : SEnv} {low : List Int} {i j : Nat} (hl : low.length = sp.length) (f7 : sp.length ≤ 7) (few : rows.length ≤ 100000) (hrows : ∀ r ∈ rows, r.length = sp.length)
    (hi : i < S.length) (hj : j < S.length) (hij : i ≠ j) (h2i : 2 ≠ i) (h2j : 2 ≠ j) (hS2 : S[2]? = some (.val (RD rows)))
    (hk : ∀ k, k < sp.length → dBest g [.list ((rows.map fun r => A r k).map .int)] = some (.int (A low k))) :
    lcGo (pName i) mYes (mF (dBest g) (mCons (mLc (mItems (mLook 2)) (pName j) mYes (m2 dIx (mLook j) (mLook i)) [j]) mNil)) S (rngD 0 1 sp.length) w0 = some (low.map .int, w0) := by
  have e : low.map PyData.int = (List.range sp.length).map fun k => PyData.int (A low k) := by
    refine List.ext_getElem (by simp [hl]) fun k h1 h2 => ?_
    simp only [List.getElem_map, List.getElem_range]
    rw [A_get]
  rw [e, rngD_0]
  refine lc_as fun k hk' => ⟨S.set i (.val (.int ((k : Nat) : Int))), rfl, ?_⟩
  have hk' := List.mem_range.mp hk'
  have s2 : (S.set i (.val (.int ((k : Nat) : Int))))[2]? = some (.val (RD rows)) := by rw [List.getElem?_set_ne (fun z => h2i z.symm)]; exact hS2
  have inner := mLc_of (mi := mItems (mLook 2)) (p := pName j) (t := mYes) (e := m2 dIx (mLook j) (mLook i)) (vs := [j]) (S := S.set i (.val (.int ((k : Nat) : Int)))) (w := w0) (w1 := w0) (ds := rows.map rowD) (by
      simp only [runM, runS, env0, flD, cal, sSeq, sIf, sRet, sRetN, sDrop, sAsg, sOwn, sFrz, frz, sPar, sPar3, sParF, sParF3, mkSl, sNx, sNo, sBk, sCt, sApp, sExt, sSetIx, sAug, sFor, sWhile, m1, m2, mC, mVar, mLook, mAnd, mOr, mNot, mIte, mB, mV, mTru, dTru, mAndV, mOrV, mNotV, mNil, mCons, mTup, mLst, mF, mFS, mItems, mRng, mRng1, mRng2, mRng3, dRng1, dRng2, dRng3, mEnum, mZip, mEnumA, mZipA, mCut, mNoP, mPt, mRev, mNeg, dNeg, dRev, dCut, mLc, mYes, pName, pTup, pTupL, pNil, pCons, wipeS, dAdd, dSub, dMul, dDiv, dMod, dMulI, dAddI, dCmp, dIsN, dNotN, isNone, dLenX, dLen, seqOf, dAbs, dMax2, dMin2, dInt, dTuple, dList, dCatL, dRepL, mSt, mStLen, mStCell, sSt, sSt3, drwGet, drwSet, mCh2, mCh3, mCount, dCount, Option.bind_some, Option.map_some, Option.bind_none, Option.map_none, List.getElem?_cons_zero, List.getElem?_cons_succ, List.set_cons_zero, List.set_cons_succ, List.map_cons, List.map_nil, List.cons_append, List.nil_append, List.replicate_succ, List.replicate_zero, List.length_cons, List.length_nil, if_true, if_false, reduceIte, Bool.false_eq_true, Bool.not_true, Bool.not_false, decide_true, decide_false, s2, RD]) (lc_as (g := rowD) (f := fun r => .int (A r k)) (ks := rows) fun r hr => ⟨((S.set i (.val (.int ((k : Nat) : Int)))).set j .no).set j (.val (rowD r)), rfl, by
      have g1 : (((S.set i (.val (.int ((k : Nat) : Int)))).set j .no).set j (.val (rowD r)))[j]? = some (.val (rowD r)) := List.getElem?_set_self (by simpa using hj)
      have g2 : (((S.set i (.val (.int ((k : Nat) : Int)))).set j .no).set j (.val (rowD r)))[i]? = some (.val (.int ((k : Nat) : Int))) := by
        rw [List.getElem?_set_ne (fun z => hij z.symm), List.getElem?_set_ne (fun z => hij z.symm), List.getElem?_set_self hi]
      have x := ix_r (y := r) (a := k) (by rw [hrows r hr]; exact hk')
      exact m2_of (d := rowD r) (w1 := w0) (by simp only [mLook, g1]) (d2 := .int ((k : Nat) : Int)) (w2 := w0) (by simp only [mLook, g2]) x⟩) (by rw [List.length_map]; exact lb_of (by omega))
  have b := hk k hk'
  rw [List.map_map] at b
  exact mF1_of inner b
theorem ev_told {sp : List Span} {gs : List Gap} {rows : List (List Int)} (h : Sys sp gs) (R : RowsOf sp gs rows) : G_L_told_holds [SD sp, GD gs, RD rows] = some (.bool true) := by
  have f7 := h.few
  unfold G_L_told_holds
  refine runM_rt [.val (SD sp), .val (GD gs), .val (RD rows), .no, .no, .no, .no, .no, .no] rfl ?_
  unfold m_L_told_holds
  cases hr : rows with
  | nil =>
    have hx : ∀ x, ¬ Sol sp gs x := fun x q => by
      have := (R.mem x).mpr q
      rw [hr] at this; cases this
    obtain ⟨d, j1, j2⟩ := ev_judge h
    have cn := ev_count_none h hx
    have e0 : dEq (RD []) (.list []) = some (.bool true) := dEq_refl rfl
    have n0 : dNe (.int 0) (.int 0) = some (.bool false) := dNe_refl rfl
    have l0 : (0 : Nat) ≤ LB := by decide
    rw [seq_nx (S1 := [.val (SD sp), .val (GD gs), .val (RD []), .val d, .no, .no, .no, .no, .no]) (w1 := w0) (by simp only [runM, runS, env0, flD, cal, sSeq, sIf, sRet, sRetN, sDrop, sAsg, sOwn, sFrz, frz, sPar, sPar3, sParF, sParF3, mkSl, sNx, sNo, sBk, sCt, sApp, sExt, sSetIx, sAug, sFor, sWhile, m1, m2, mC, mVar, mLook, mAnd, mOr, mNot, mIte, mB, mV, mTru, dTru, mAndV, mOrV, mNotV, mNil, mCons, mTup, mLst, mF, mFS, mItems, mRng, mRng1, mRng2, mRng3, dRng1, dRng2, dRng3, mEnum, mZip, mEnumA, mZipA, mCut, mNoP, mPt, mRev, mNeg, dNeg, dRev, dCut, mLc, mYes, pName, pTup, pTupL, pNil, pCons, wipeS, dAdd, dSub, dMul, dDiv, dMod, dMulI, dAddI, dCmp, dIsN, dNotN, isNone, dLenX, dLen, seqOf, dAbs, dMax2, dMin2, dInt, dTuple, dList, dCatL, dRepL, mSt, mStLen, mStCell, sSt, sSt3, drwGet, drwSet, mCh2, mCh3, mCount, dCount, Option.bind_some, Option.map_some, Option.bind_none, Option.map_none, List.getElem?_cons_zero, List.getElem?_cons_succ, List.set_cons_zero, List.set_cons_succ, List.map_cons, List.map_nil, List.cons_append, List.nil_append, List.replicate_succ, List.replicate_zero, List.length_cons, List.length_nil, if_true, if_false, reduceIte, Bool.false_eq_true, Bool.not_true, Bool.not_false, decide_true, decide_false, Nat.zero_add, Nat.reduceAdd, j1])]
    rw [seq_rt (d := .bool true) (S1 := [.val (SD sp), .val (GD gs), .val (RD []), .val d, .no, .no, .no, .no, .no]) (w1 := w0) (by
      rw [if_yes (w1 := w0) (by simp only [runM, runS, env0, flD, cal, sSeq, sIf, sRet, sRetN, sDrop, sAsg, sOwn, sFrz, frz, sPar, sPar3, sParF, sParF3, mkSl, sNx, sNo, sBk, sCt, sApp, sExt, sSetIx, sAug, sFor, sWhile, m1, m2, mC, mVar, mLook, mAnd, mOr, mNot, mIte, mB, mV, mTru, dTru, mAndV, mOrV, mNotV, mNil, mCons, mTup, mLst, mF, mFS, mItems, mRng, mRng1, mRng2, mRng3, dRng1, dRng2, dRng3, mEnum, mZip, mEnumA, mZipA, mCut, mNoP, mPt, mRev, mNeg, dNeg, dRev, dCut, mLc, mYes, pName, pTup, pTupL, pNil, pCons, wipeS, dAdd, dSub, dMul, dDiv, dMod, dMulI, dAddI, dCmp, dIsN, dNotN, isNone, dLenX, dLen, seqOf, dAbs, dMax2, dMin2, dInt, dTuple, dList, dCatL, dRepL, mSt, mStLen, mStCell, sSt, sSt3, drwGet, drwSet, mCh2, mCh3, mCount, dCount, Option.bind_some, Option.map_some, Option.bind_none, Option.map_none, List.getElem?_cons_zero, List.getElem?_cons_succ, List.set_cons_zero, List.set_cons_succ, List.map_cons, List.map_nil, List.cons_append, List.nil_append, List.replicate_succ, List.replicate_zero, List.length_cons, List.length_nil, if_true, if_false, reduceIte, Bool.false_eq_true, Bool.not_true, Bool.not_false, decide_true, decide_false, if_pos l0, e0])]
      rw [seq_nx (if_no (w1 := w0) (by simp only [runM, runS, env0, flD, cal, sSeq, sIf, sRet, sRetN, sDrop, sAsg, sOwn, sFrz, frz, sPar, sPar3, sParF, sParF3, mkSl, sNx, sNo, sBk, sCt, sApp, sExt, sSetIx, sAug, sFor, sWhile, m1, m2, mC, mVar, mLook, mAnd, mOr, mNot, mIte, mB, mV, mTru, dTru, mAndV, mOrV, mNotV, mNil, mCons, mTup, mLst, mF, mFS, mItems, mRng, mRng1, mRng2, mRng3, dRng1, dRng2, dRng3, mEnum, mZip, mEnumA, mZipA, mCut, mNoP, mPt, mRev, mNeg, dNeg, dRev, dCut, mLc, mYes, pName, pTup, pTupL, pNil, pCons, wipeS, dAdd, dSub, dMul, dDiv, dMod, dMulI, dAddI, dCmp, dIsN, dNotN, isNone, dLenX, dLen, seqOf, dAbs, dMax2, dMin2, dInt, dTuple, dList, dCatL, dRepL, mSt, mStLen, mStCell, sSt, sSt3, drwGet, drwSet, mCh2, mCh3, mCount, dCount, Option.bind_some, Option.map_some, Option.bind_none, Option.map_none, List.getElem?_cons_zero, List.getElem?_cons_succ, List.set_cons_zero, List.set_cons_succ, List.map_cons, List.map_nil, List.cons_append, List.nil_append, List.replicate_succ, List.replicate_zero, List.length_cons, List.length_nil, if_true, if_false, reduceIte, Bool.false_eq_true, Bool.not_true, Bool.not_false, decide_true, decide_false, Nat.zero_add, Nat.reduceAdd, cn, n0]))]
      cases j2 with
      | ring q0 q1 q2 q3 q4 =>
        have ar := ev_accept_ring h q1 q2 q3 q4
        have rr : dEq (.str "ring") (.str "ring") = some (.bool true) := dEq_refl rfl
        simp only [runM, runS, env0, flD, cal, sSeq, sIf, sRet, sRetN, sDrop, sAsg, sOwn, sFrz, frz, sPar, sPar3, sParF, sParF3, mkSl, sNx, sNo, sBk, sCt, sApp, sExt, sSetIx, sAug, sFor, sWhile, m1, m2, mC, mVar, mLook, mAnd, mOr, mNot, mIte, mB, mV, mTru, dTru, mAndV, mOrV, mNotV, mNil, mCons, mTup, mLst, mF, mFS, mItems, mRng, mRng1, mRng2, mRng3, dRng1, dRng2, dRng3, mEnum, mZip, mEnumA, mZipA, mCut, mNoP, mPt, mRev, mNeg, dNeg, dRev, dCut, mLc, mYes, pName, pTup, pTupL, pNil, pCons, wipeS, dAdd, dSub, dMul, dDiv, dMod, dMulI, dAddI, dCmp, dIsN, dNotN, isNone, dLenX, dLen, seqOf, dAbs, dMax2, dMin2, dInt, dTuple, dList, dCatL, dRepL, mSt, mStLen, mStCell, sSt, sSt3, drwGet, drwSet, mCh2, mCh3, mCount, dCount, Option.bind_some, Option.map_some, Option.bind_none, Option.map_none, List.getElem?_cons_zero, List.getElem?_cons_succ, List.set_cons_zero, List.set_cons_succ, List.map_cons, List.map_nil, List.cons_append, List.nil_append, List.replicate_succ, List.replicate_zero, List.length_cons, List.length_nil, if_true, if_false, reduceIte, Bool.false_eq_true, Bool.not_true, Bool.not_false, decide_true, decide_false, Nat.zero_add, Nat.reduceAdd, ix_tup2_0, ix_tup2_1, rr, ar]
      | late q0 q1 q2 q3 q4 q5 q6 =>
        have ar := ev_accept_late h q3 q4 q5 q1 q6
        have rr : dEq (.str "late") (.str "late") = some (.bool true) := dEq_refl rfl
        have r2 : dEq (.str "late") (.str "ring") = some (.bool false) := eq_str (by decide +kernel)
        simp only [runM, runS, env0, flD, cal, sSeq, sIf, sRet, sRetN, sDrop, sAsg, sOwn, sFrz, frz, sPar, sPar3, sParF, sParF3, mkSl, sNx, sNo, sBk, sCt, sApp, sExt, sSetIx, sAug, sFor, sWhile, m1, m2, mC, mVar, mLook, mAnd, mOr, mNot, mIte, mB, mV, mTru, dTru, mAndV, mOrV, mNotV, mNil, mCons, mTup, mLst, mF, mFS, mItems, mRng, mRng1, mRng2, mRng3, dRng1, dRng2, dRng3, mEnum, mZip, mEnumA, mZipA, mCut, mNoP, mPt, mRev, mNeg, dNeg, dRev, dCut, mLc, mYes, pName, pTup, pTupL, pNil, pCons, wipeS, dAdd, dSub, dMul, dDiv, dMod, dMulI, dAddI, dCmp, dIsN, dNotN, isNone, dLenX, dLen, seqOf, dAbs, dMax2, dMin2, dInt, dTuple, dList, dCatL, dRepL, mSt, mStLen, mStCell, sSt, sSt3, drwGet, drwSet, mCh2, mCh3, mCount, dCount, Option.bind_some, Option.map_some, Option.bind_none, Option.map_none, List.getElem?_cons_zero, List.getElem?_cons_succ, List.set_cons_zero, List.set_cons_succ, List.map_cons, List.map_nil, List.cons_append, List.nil_append, List.replicate_succ, List.replicate_zero, List.length_cons, List.length_nil, if_true, if_false, reduceIte, Bool.false_eq_true, Bool.not_true, Bool.not_false, decide_true, decide_false, Nat.zero_add, Nat.reduceAdd, ix_tup2_0, ix_tup2_1, rr, r2, ar]
      | years q => exact absurd q (hx _))]
    exact ⟨_, _, rfl⟩
  | cons r0 rs =>
    have hx : Sol sp gs r0 := (R.mem r0).mp (by rw [hr]; exact List.mem_cons_self)
    have hne : rows ≠ [] := by rw [hr]; exact List.cons_ne_nil _ _
    have j := judged_years h hx
    obtain ⟨l1, l2, l3⟩ := least_sol h hx
    obtain ⟨m2', m3⟩ := most_sol h hx
    have lows : ∀ x ∈ rows, ∀ k, A (least sp gs) k ≤ A x k := fun x q k => (least_sol h ((R.mem x).mp q)).2.2 k
    have mosts : ∀ x ∈ rows, ∀ k, A x k ≤ A (most sp gs) k := fun x q k => (most_sol h ((R.mem x).mp q)).2 k
    have hrl : ∀ r ∈ rows, r.length = sp.length := fun r q => ((R.mem r).mp q).len
    have inl := (R.mem _).mpr l2
    have inm := (R.mem _).mpr m2'
    have e0 := eq_nil (r := r0) (rows := rs)
    rw [← hr] at e0 ⊢
    have l0 : (0 : Nat) ≤ LB := by decide
    have lt : (2 : Nat) ≤ LB := by decide
    rw [seq_nx (S1 := [.val (SD sp), .val (GD gs), .val (RD rows), .val (.tuple [.str "years", rowD (least sp gs)]), .no, .no, .no, .no, .no]) (w1 := w0) (by simp only [runM, runS, env0, flD, cal, sSeq, sIf, sRet, sRetN, sDrop, sAsg, sOwn, sFrz, frz, sPar, sPar3, sParF, sParF3, mkSl, sNx, sNo, sBk, sCt, sApp, sExt, sSetIx, sAug, sFor, sWhile, m1, m2, mC, mVar, mLook, mAnd, mOr, mNot, mIte, mB, mV, mTru, dTru, mAndV, mOrV, mNotV, mNil, mCons, mTup, mLst, mF, mFS, mItems, mRng, mRng1, mRng2, mRng3, dRng1, dRng2, dRng3, mEnum, mZip, mEnumA, mZipA, mCut, mNoP, mPt, mRev, mNeg, dNeg, dRev, dCut, mLc, mYes, pName, pTup, pTupL, pNil, pCons, wipeS, dAdd, dSub, dMul, dDiv, dMod, dMulI, dAddI, dCmp, dIsN, dNotN, isNone, dLenX, dLen, seqOf, dAbs, dMax2, dMin2, dInt, dTuple, dList, dCatL, dRepL, mSt, mStLen, mStCell, sSt, sSt3, drwGet, drwSet, mCh2, mCh3, mCount, dCount, Option.bind_some, Option.map_some, Option.bind_none, Option.map_none, List.getElem?_cons_zero, List.getElem?_cons_succ, List.set_cons_zero, List.set_cons_succ, List.map_cons, List.map_nil, List.cons_append, List.nil_append, List.replicate_succ, List.replicate_zero, List.length_cons, List.length_nil, if_true, if_false, reduceIte, Bool.false_eq_true, Bool.not_true, Bool.not_false, decide_true, decide_false, Nat.zero_add, Nat.reduceAdd, j])]
    rw [seq_nx (if_no (w1 := w0) (by simp only [runM, runS, env0, flD, cal, sSeq, sIf, sRet, sRetN, sDrop, sAsg, sOwn, sFrz, frz, sPar, sPar3, sParF, sParF3, mkSl, sNx, sNo, sBk, sCt, sApp, sExt, sSetIx, sAug, sFor, sWhile, m1, m2, mC, mVar, mLook, mAnd, mOr, mNot, mIte, mB, mV, mTru, dTru, mAndV, mOrV, mNotV, mNil, mCons, mTup, mLst, mF, mFS, mItems, mRng, mRng1, mRng2, mRng3, dRng1, dRng2, dRng3, mEnum, mZip, mEnumA, mZipA, mCut, mNoP, mPt, mRev, mNeg, dNeg, dRev, dCut, mLc, mYes, pName, pTup, pTupL, pNil, pCons, wipeS, dAdd, dSub, dMul, dDiv, dMod, dMulI, dAddI, dCmp, dIsN, dNotN, isNone, dLenX, dLen, seqOf, dAbs, dMax2, dMin2, dInt, dTuple, dList, dCatL, dRepL, mSt, mStLen, mStCell, sSt, sSt3, drwGet, drwSet, mCh2, mCh3, mCount, dCount, Option.bind_some, Option.map_some, Option.bind_none, Option.map_none, List.getElem?_cons_zero, List.getElem?_cons_succ, List.set_cons_zero, List.set_cons_succ, List.map_cons, List.map_nil, List.cons_append, List.nil_append, List.replicate_succ, List.replicate_zero, List.length_cons, List.length_nil, if_true, if_false, reduceIte, Bool.false_eq_true, Bool.not_true, Bool.not_false, decide_true, decide_false, if_pos l0, e0]))]
    rw [seq_nx (S1 := [.val (SD sp), .val (GD gs), .val (RD rows), .val (.tuple [.str "years", rowD (least sp gs)]), .val (.int ((sp.length : Nat) : Int)), .no, .no, .no, .no]) (w1 := w0) (by simp only [runM, runS, env0, flD, cal, sSeq, sIf, sRet, sRetN, sDrop, sAsg, sOwn, sFrz, frz, sPar, sPar3, sParF, sParF3, mkSl, sNx, sNo, sBk, sCt, sApp, sExt, sSetIx, sAug, sFor, sWhile, m1, m2, mC, mVar, mLook, mAnd, mOr, mNot, mIte, mB, mV, mTru, dTru, mAndV, mOrV, mNotV, mNil, mCons, mTup, mLst, mF, mFS, mItems, mRng, mRng1, mRng2, mRng3, dRng1, dRng2, dRng3, mEnum, mZip, mEnumA, mZipA, mCut, mNoP, mPt, mRev, mNeg, dNeg, dRev, dCut, mLc, mYes, pName, pTup, pTupL, pNil, pCons, wipeS, dAdd, dSub, dMul, dDiv, dMod, dMulI, dAddI, dCmp, dIsN, dNotN, isNone, dLenX, dLen, seqOf, dAbs, dMax2, dMin2, dInt, dTuple, dList, dCatL, dRepL, mSt, mStLen, mStCell, sSt, sSt3, drwGet, drwSet, mCh2, mCh3, mCount, dCount, Option.bind_some, Option.map_some, Option.bind_none, Option.map_none, List.getElem?_cons_zero, List.getElem?_cons_succ, List.set_cons_zero, List.set_cons_succ, List.map_cons, List.map_nil, List.cons_append, List.nil_append, List.replicate_succ, List.replicate_zero, List.length_cons, List.length_nil, if_true, if_false, reduceIte, Bool.false_eq_true, Bool.not_true, Bool.not_false, decide_true, decide_false, SD, List.length_map])]
    have sm := smallI_of (i := ((sp.length : Nat) : Int)) (by omega) (by omega)
    have rg : mRng1 (mCons (mVar 4) mNil) [.val (SD sp), .val (GD gs), .val (RD rows), .val (.tuple [.str "years", rowD (least sp gs)]), .val (.int ((sp.length : Nat) : Int)), .no, .no, .no, .no] w0 = some (rngD 0 1 sp.length, w0) := by
      simp only [runM, runS, env0, flD, cal, sSeq, sIf, sRet, sRetN, sDrop, sAsg, sOwn, sFrz, frz, sPar, sPar3, sParF, sParF3, mkSl, sNx, sNo, sBk, sCt, sApp, sExt, sSetIx, sAug, sFor, sWhile, m1, m2, mC, mVar, mLook, mAnd, mOr, mNot, mIte, mB, mV, mTru, dTru, mAndV, mOrV, mNotV, mNil, mCons, mTup, mLst, mF, mFS, mItems, mRng, mRng1, mRng2, mRng3, dRng1, dRng2, dRng3, mEnum, mZip, mEnumA, mZipA, mCut, mNoP, mPt, mRev, mNeg, dNeg, dRev, dCut, mLc, mYes, pName, pTup, pTupL, pNil, pCons, wipeS, dAdd, dSub, dMul, dDiv, dMod, dMulI, dAddI, dCmp, dIsN, dNotN, isNone, dLenX, dLen, seqOf, dAbs, dMax2, dMin2, dInt, dTuple, dList, dCatL, dRepL, mSt, mStLen, mStCell, sSt, sSt3, drwGet, drwSet, mCh2, mCh3, mCount, dCount, Option.bind_some, Option.map_some, Option.bind_none, Option.map_none, List.getElem?_cons_zero, List.getElem?_cons_succ, List.set_cons_zero, List.set_cons_succ, List.map_cons, List.map_nil, List.cons_append, List.nil_append, List.replicate_succ, List.replicate_zero, List.length_cons, List.length_nil, if_true, if_false, reduceIte, Bool.false_eq_true, Bool.not_true, Bool.not_false, decide_true, decide_false, if_pos sm, Int.toNat_natCast]
    have cl := mLc_of (vs := [7]) (p := pName 7) (t := mYes) rg (lc_low (g := PySem.W.minD) (sp := sp) (rows := rows) (S := [.val (SD sp), .val (GD gs), .val (RD rows), .val (.tuple [.str "years", rowD (least sp gs)]), .val (.int ((sp.length : Nat) : Int)), .no, .no, .no, .no]) (low := least sp gs) (i := 7) (j := 8) l2.len f7 R.few hrl (by simp) (by simp) (by decide) (by decide) (by decide) rfl
      fun k hk => min_is (fun y hy => by obtain ⟨x, q, rfl⟩ := List.mem_map.mp hy; exact lows x q k) (List.mem_map.mpr ⟨_, inl, rfl⟩)) (by rw [List.length_map, l2.len]; exact lb_of (by omega))
    have cm := mLc_of (vs := [7]) (p := pName 7) (t := mYes) rg (lc_low (g := PySem.W.maxD) (sp := sp) (rows := rows) (S := [.val (SD sp), .val (GD gs), .val (RD rows), .val (.tuple [.str "years", rowD (least sp gs)]), .val (.int ((sp.length : Nat) : Int)), .no, .no, .no, .no]) (low := most sp gs) (i := 7) (j := 8) m2'.len f7 R.few hrl (by simp) (by simp) (by decide) (by decide) (by decide) rfl
      fun k hk => max_is (fun y hy => by obtain ⟨x, q, rfl⟩ := List.mem_map.mp hy; exact mosts x q k) (List.mem_map.mpr ⟨_, inm, rfl⟩)) (by rw [List.length_map, m2'.len]; exact lb_of (by omega))
    have tl := mF1_of (g := dTuple) cl rfl
    have tm := mF1_of (g := dTuple) cm rfl
    rw [seq_nx (S1 := [.val (SD sp), .val (GD gs), .val (RD rows), .val (.tuple [.str "years", rowD (least sp gs)]), .val (.int ((sp.length : Nat) : Int)), .val (rowD (least sp gs)), .val (rowD (most sp gs)), .no, .no]) (w1 := w0) (sAsg_of (d := .tuple [rowD (least sp gs), rowD (most sp gs)]) (w1 := w0) (mTup2_of tl tm) rfl)]
    have nin : ∀ x, x ∈ rows → dNotIn (rowD x) (RD rows) = some (.bool false) := fun x q => by
      show (if (rows.map rowD).all (shp 8) = true ∧ shp 8 (rowD x) = true then some (PyData.bool (true != anyB (rows.map rowD) (rowD x))) else none) = _
      rw [if_pos ⟨shp_RD' _, shp_row _⟩, show anyB (rows.map rowD) (rowD x) = decide (x ∈ rows) from any_rows rows x, decide_eq_true q]
      rfl
    have ny : dNe (.tuple [.str "years", rowD (least sp gs)]) (.tuple [.str "years", rowD (least sp gs)]) = some (.bool false) := dNe_refl (by
      show [PyData.str "years", rowD (least sp gs)].all (shp 7) = true
      simp only [List.all_cons, List.all_nil, shp_row, Bool.and_true]
      rfl)
    have ay := ev_accept_years h m2'
    rw [seq_nx (if_no (w1 := w0) (by
      simp only [runM, runS, env0, flD, cal, sSeq, sIf, sRet, sRetN, sDrop, sAsg, sOwn, sFrz, frz, sPar, sPar3, sParF, sParF3, mkSl, sNx, sNo, sBk, sCt, sApp, sExt, sSetIx, sAug, sFor, sWhile, m1, m2, mC, mVar, mLook, mAnd, mOr, mNot, mIte, mB, mV, mTru, dTru, mAndV, mOrV, mNotV, mNil, mCons, mTup, mLst, mF, mFS, mItems, mRng, mRng1, mRng2, mRng3, dRng1, dRng2, dRng3, mEnum, mZip, mEnumA, mZipA, mCut, mNoP, mPt, mRev, mNeg, dNeg, dRev, dCut, mLc, mYes, pName, pTup, pTupL, pNil, pCons, wipeS, dAdd, dSub, dMul, dDiv, dMod, dMulI, dAddI, dCmp, dIsN, dNotN, isNone, dLenX, dLen, seqOf, dAbs, dMax2, dMin2, dInt, dTuple, dList, dCatL, dRepL, mSt, mStLen, mStCell, sSt, sSt3, drwGet, drwSet, mCh2, mCh3, mCount, dCount, Option.bind_some, Option.map_some, Option.bind_none, Option.map_none, List.getElem?_cons_zero, List.getElem?_cons_succ, List.set_cons_zero, List.set_cons_succ, List.map_cons, List.map_nil, List.cons_append, List.nil_append, List.replicate_succ, List.replicate_zero, List.length_cons, List.length_nil, if_true, if_false, reduceIte, Bool.false_eq_true, Bool.not_true, Bool.not_false, decide_true, decide_false, nin _ inl, nin _ inm, Nat.zero_add, Nat.reduceAdd, if_pos lt, ny, ay]))]
    have bo := ev_bounds h hx
    have co := ev_count h hx (R.cnt hne)
    have ce : (cntRows gs (bnds sp gs)).length = rows.length := same_len (cntRows_ok _ _).1 R.nd fun x => by rw [cnt_sol h l2 x, R.mem x]
    have sa := ev_same (okShow_sp (bl := bnds sp gs) (by rw [bnds_len]; omega) fun s hs => by
      have := bnds_ok h hx s hs
      omega)
    have lc := lc_as (p := pName 7) (e := mTup (mCons (m2 dIx (mLook 5) (mLook 7)) (mCons (m2 dIx (mLook 6) (mLook 7)) mNil))) (S := [.val (SD sp), .val (GD gs), .val (RD rows), .val (.tuple [.str "years", rowD (least sp gs)]), .val (.int ((sp.length : Nat) : Int)), .val (rowD (least sp gs)), .val (rowD (most sp gs)), .no, .no]) (w := w0) (g := fun k : Nat => .int ((k : Nat) : Int)) (f := fun k => sD (A (least sp gs) k, A (most sp gs) k)) (ks := List.range sp.length) fun k hk => ⟨[.val (SD sp), .val (GD gs), .val (RD rows), .val (.tuple [.str "years", rowD (least sp gs)]), .val (.int ((sp.length : Nat) : Int)), .val (rowD (least sp gs)), .val (rowD (most sp gs)), .val (.int ((k : Nat) : Int)), .no], rfl, by
        have hk := List.mem_range.mp hk
        have i1 := ix_r (y := least sp gs) (a := k) (by rw [l2.len]; exact hk)
        have i2 := ix_r (y := most sp gs) (a := k) (by rw [m2'.len]; exact hk)
        simp only [runM, runS, env0, flD, cal, sSeq, sIf, sRet, sRetN, sDrop, sAsg, sOwn, sFrz, frz, sPar, sPar3, sParF, sParF3, mkSl, sNx, sNo, sBk, sCt, sApp, sExt, sSetIx, sAug, sFor, sWhile, m1, m2, mC, mVar, mLook, mAnd, mOr, mNot, mIte, mB, mV, mTru, dTru, mAndV, mOrV, mNotV, mNil, mCons, mTup, mLst, mF, mFS, mItems, mRng, mRng1, mRng2, mRng3, dRng1, dRng2, dRng3, mEnum, mZip, mEnumA, mZipA, mCut, mNoP, mPt, mRev, mNeg, dNeg, dRev, dCut, mLc, mYes, pName, pTup, pTupL, pNil, pCons, wipeS, dAdd, dSub, dMul, dDiv, dMod, dMulI, dAddI, dCmp, dIsN, dNotN, isNone, dLenX, dLen, seqOf, dAbs, dMax2, dMin2, dInt, dTuple, dList, dCatL, dRepL, mSt, mStLen, mStCell, sSt, sSt3, drwGet, drwSet, mCh2, mCh3, mCount, dCount, Option.bind_some, Option.map_some, Option.bind_none, Option.map_none, List.getElem?_cons_zero, List.getElem?_cons_succ, List.set_cons_zero, List.set_cons_succ, List.map_cons, List.map_nil, List.cons_append, List.nil_append, List.replicate_succ, List.replicate_zero, List.length_cons, List.length_nil, if_true, if_false, reduceIte, Bool.false_eq_true, Bool.not_true, Bool.not_false, decide_true, decide_false, i1, i2, Nat.zero_add, Nat.reduceAdd, if_pos lt, sD]⟩
    rw [← rngD_0, show ((List.range sp.length).map fun k => sD (A (least sp gs) k, A (most sp gs) k)) = (bnds sp gs).map sD from by unfold bnds; rw [List.map_map]; rfl] at lc
    have lt' := mF1_of (g := dTuple) (mLc_of (vs := [7]) (mi := mRng1 (mCons (mVar 4) mNil)) (S := [.val (SD sp), .val (GD gs), .val (RD rows), .val (.tuple [.str "years", rowD (least sp gs)]), .val (.int ((sp.length : Nat) : Int)), .val (rowD (least sp gs)), .val (rowD (most sp gs)), .no, .no]) (w := w0) (w1 := w0) (by simp only [runM, runS, env0, flD, cal, sSeq, sIf, sRet, sRetN, sDrop, sAsg, sOwn, sFrz, frz, sPar, sPar3, sParF, sParF3, mkSl, sNx, sNo, sBk, sCt, sApp, sExt, sSetIx, sAug, sFor, sWhile, m1, m2, mC, mVar, mLook, mAnd, mOr, mNot, mIte, mB, mV, mTru, dTru, mAndV, mOrV, mNotV, mNil, mCons, mTup, mLst, mF, mFS, mItems, mRng, mRng1, mRng2, mRng3, dRng1, dRng2, dRng3, mEnum, mZip, mEnumA, mZipA, mCut, mNoP, mPt, mRev, mNeg, dNeg, dRev, dCut, mLc, mYes, pName, pTup, pTupL, pNil, pCons, wipeS, dAdd, dSub, dMul, dDiv, dMod, dMulI, dAddI, dCmp, dIsN, dNotN, isNone, dLenX, dLen, seqOf, dAbs, dMax2, dMin2, dInt, dTuple, dList, dCatL, dRepL, mSt, mStLen, mStCell, sSt, sSt3, drwGet, drwSet, mCh2, mCh3, mCount, dCount, Option.bind_some, Option.map_some, Option.bind_none, Option.map_none, List.getElem?_cons_zero, List.getElem?_cons_succ, List.set_cons_zero, List.set_cons_succ, List.map_cons, List.map_nil, List.cons_append, List.nil_append, List.replicate_succ, List.replicate_zero, List.length_cons, List.length_nil, if_true, if_false, reduceIte, Bool.false_eq_true, Bool.not_true, Bool.not_false, decide_true, decide_false, if_pos sm, Int.toNat_natCast]) lc (by rw [List.length_map, bnds_len]; exact lb_of (by omega))) rfl
    have eqn : dEq (.int ((rows.length : Nat) : Int)) (.int ((rows.length : Nat) : Int)) = some (.bool true) := dEq_refl rfl
    rw [sRet_of (d := .bool true) (w1 := w0) (mAndV_yes (w1 := w0) (mF2_of (d := SD (bnds sp gs)) (w1 := w0) (by simp only [runM, runS, env0, flD, cal, sSeq, sIf, sRet, sRetN, sDrop, sAsg, sOwn, sFrz, frz, sPar, sPar3, sParF, sParF3, mkSl, sNx, sNo, sBk, sCt, sApp, sExt, sSetIx, sAug, sFor, sWhile, m1, m2, mC, mVar, mLook, mAnd, mOr, mNot, mIte, mB, mV, mTru, dTru, mAndV, mOrV, mNotV, mNil, mCons, mTup, mLst, mF, mFS, mItems, mRng, mRng1, mRng2, mRng3, dRng1, dRng2, dRng3, mEnum, mZip, mEnumA, mZipA, mCut, mNoP, mPt, mRev, mNeg, dNeg, dRev, dCut, mLc, mYes, pName, pTup, pTupL, pNil, pCons, wipeS, dAdd, dSub, dMul, dDiv, dMod, dMulI, dAddI, dCmp, dIsN, dNotN, isNone, dLenX, dLen, seqOf, dAbs, dMax2, dMin2, dInt, dTuple, dList, dCatL, dRepL, mSt, mStLen, mStCell, sSt, sSt3, drwGet, drwSet, mCh2, mCh3, mCount, dCount, Option.bind_some, Option.map_some, Option.bind_none, Option.map_none, List.getElem?_cons_zero, List.getElem?_cons_succ, List.set_cons_zero, List.set_cons_succ, List.map_cons, List.map_nil, List.cons_append, List.nil_append, List.replicate_succ, List.replicate_zero, List.length_cons, List.length_nil, if_true, if_false, reduceIte, Bool.false_eq_true, Bool.not_true, Bool.not_false, decide_true, decide_false, Nat.zero_add, Nat.reduceAdd, bo]) lt' (by show (if 2 = 2 then _ else _) = _; rw [if_pos rfl]; exact sa)) (by
      simp only [runM, runS, env0, flD, cal, sSeq, sIf, sRet, sRetN, sDrop, sAsg, sOwn, sFrz, frz, sPar, sPar3, sParF, sParF3, mkSl, sNx, sNo, sBk, sCt, sApp, sExt, sSetIx, sAug, sFor, sWhile, m1, m2, mC, mVar, mLook, mAnd, mOr, mNot, mIte, mB, mV, mTru, dTru, mAndV, mOrV, mNotV, mNil, mCons, mTup, mLst, mF, mFS, mItems, mRng, mRng1, mRng2, mRng3, dRng1, dRng2, dRng3, mEnum, mZip, mEnumA, mZipA, mCut, mNoP, mPt, mRev, mNeg, dNeg, dRev, dCut, mLc, mYes, pName, pTup, pTupL, pNil, pCons, wipeS, dAdd, dSub, dMul, dDiv, dMod, dMulI, dAddI, dCmp, dIsN, dNotN, isNone, dLenX, dLen, seqOf, dAbs, dMax2, dMin2, dInt, dTuple, dList, dCatL, dRepL, mSt, mStLen, mStCell, sSt, sSt3, drwGet, drwSet, mCh2, mCh3, mCount, dCount, Option.bind_some, Option.map_some, Option.bind_none, Option.map_none, List.getElem?_cons_zero, List.getElem?_cons_succ, List.set_cons_zero, List.set_cons_succ, List.map_cons, List.map_nil, List.cons_append, List.nil_append, List.replicate_succ, List.replicate_zero, List.length_cons, List.length_nil, if_true, if_false, reduceIte, Bool.false_eq_true, Bool.not_true, Bool.not_false, decide_true, decide_false, Nat.zero_add, Nat.reduceAdd, co, ce, RD, List.length_map, eqn]))]
    exact ⟨_, _, rfl⟩
end K64

set_option Elab.async false
set_option linter.all false
set_option maxRecDepth 100000
set_option maxHeartbeats 4000000
/-! K64 math 4: years moved, turned round, finds numbered anew, two systems beside each other. -/
namespace K64
open PySem PySem.Spec PyProof.Rows L2 Mini
theorem nodup_map_on {α β : Type} {f : α → β} {xs : List α} (hn : xs.Nodup) (hi : ∀ a ∈ xs, ∀ b ∈ xs, f a = f b → a = b) : (xs.map f).Nodup := by
  induction xs with
  | nil => exact List.nodup_nil
  | cons x xs ih =>
    obtain ⟨h1, h2⟩ := List.nodup_cons.mp hn
    rw [List.map_cons, List.nodup_cons]
    refine ⟨fun hm => ?_, ih h2 fun a ha b hb => hi a (List.mem_cons_of_mem _ ha) b (List.mem_cons_of_mem _ hb)⟩
    obtain ⟨y, hy, e⟩ := List.mem_map.mp hm
    have := hi y (List.mem_cons_of_mem _ hy) x List.mem_cons_self e
    subst this
    exact h1 hy
theorem RowsOf.via {sp sp' : List Span} {gs gs' : List Gap} {rows : List (List Int)} (R : RowsOf sp gs rows) (h' : Sys sp' gs') (f : List Int → List Int) (h1 : ∀ x, Sol sp gs x → Sol sp' gs' (f x)) (h2 : ∀ x', Sol sp' gs' x' → ∃ x, Sol sp gs x ∧ f x = x')
    (h3 : ∀ x y, Sol sp gs x → Sol sp gs y → f x = f y → x = y) (h4 : sp'.length ≤ 4) (hw : ∀ s ∈ sp', s.2 - s.1 ≤ 6) : RowsOf sp' gs' (rows.map f) := by
  have mem : ∀ x, x ∈ rows.map f ↔ Sol sp' gs' x := fun x => by
    rw [List.mem_map]
    constructor
    · rintro ⟨y, hy, rfl⟩
      exact h1 y ((R.mem y).mp hy)
    · intro hx
      obtain ⟨y, hy, e⟩ := h2 x hx
      exact ⟨y, (R.mem y).mpr hy, e⟩
  have nd := nodup_map_on R.nd fun a ha b hb e => h3 a b ((R.mem a).mp ha) ((R.mem b).mp hb) e
  exact ⟨nd, mem, by rw [List.length_map]; exact R.few, fun hne => by
    obtain ⟨x, hx⟩ := List.exists_mem_of_ne_nil _ hne
    exact count_small (by rw [bnds_len]; exact h4) (bnds_thin h' ((mem x).mp hx) hw)⟩
/-! ### moved -/
def mvx (d : Int) (x : List Int) : List Int := x.map fun y => y + d
def mvs (d : Int) (sp : List Span) : List Span := sp.map fun s => (s.1 + d, s.2 + d)
theorem A_mvx {d : Int} {x : List Int} {i : Nat} (h : i < x.length) : A (mvx d x) i = A x i + d := by
  rw [A_get (by simpa [mvx] using h), A_get h]
  simp [mvx]
theorem mvs_len (d : Int) (sp : List Span) : (mvs d sp).length = sp.length := by simp [mvs]
theorem slo_mvs {d : Int} {sp : List Span} {i : Nat} (h : i < sp.length) : slo (mvs d sp) i = slo sp i + d := by
  unfold slo mvs
  rw [List.getD_eq_getElem?_getD, List.getD_eq_getElem?_getD, List.getElem?_map, List.getElem?_eq_getElem h]; rfl
theorem shi_mvs {d : Int} {sp : List Span} {i : Nat} (h : i < sp.length) : shi (mvs d sp) i = shi sp i + d := by
  unfold shi mvs
  rw [List.getD_eq_getElem?_getD, List.getD_eq_getElem?_getD, List.getElem?_map, List.getElem?_eq_getElem h]; rfl
theorem mvx_mvx (d : Int) (x : List Int) : mvx (-d) (mvx d x) = x := by
  unfold mvx
  rw [List.map_map]
  have : ((fun y : Int => y + -d) ∘ fun y : Int => y + d) = id := by funext y; simp only [Function.comp, id]; omega
  rw [this, List.map_id]
theorem mvs_mvs (d : Int) (sp : List Span) : mvs (-d) (mvs d sp) = sp := by
  unfold mvs
  rw [List.map_map]
  have : ((fun s : Span => ((s.1 + -d, s.2 + -d) : Span)) ∘ fun s : Span => (s.1 + d, s.2 + d)) = id := by
    funext y
    obtain ⟨a, b⟩ := y
    simp only [Function.comp, id]
    congr 1 <;> omega
  rw [this, List.map_id]
section
variable {sp : List Span} {gs : List Gap} {rows : List (List Int)}
theorem Sol.mv {x : List Int} (d : Int) (hg : ∀ g ∈ gs, GapOk sp.length g) (h : Sol sp gs x) : Sol (mvs d sp) gs (mvx d x) := by
  have xl := h.len
  refine ⟨by simp [mvx, mvs, xl], fun i hi => ?_, fun i hi => ?_, fun g hgg => ?_⟩
  · rw [mvs_len] at hi
    have := h.low i hi
    rw [slo_mvs hi, A_mvx (by omega)]; omega
  · rw [mvs_len] at hi
    have := h.high i hi
    rw [shi_mvs hi, A_mvx (by omega)]; omega
  · obtain ⟨a, b, _⟩ := hg g hgg
    have := h.gap g hgg
    rw [A_mvx (by omega), A_mvx (by omega)]; omega
theorem sys_mv (h : Sys sp gs) {d : Int} (hb : ∀ s ∈ sp, -1000 ≤ s.1 + d ∧ s.2 + d ≤ 1000) : Sys (mvs d sp) gs := by
  refine ⟨by rw [mvs_len]; exact h.few, fun z hz => ?_, h.gfew, fun g hg => by rw [mvs_len]; exact h.gap g hg, h.gsz⟩
  obtain ⟨s, hs, rfl⟩ := List.mem_map.mp hz
  have := h.span s hs
  have := hb s hs
  simp only
  omega
theorem rows_mv (h : Sys sp gs) (R : RowsOf sp gs rows) {d : Int} (hb : ∀ s ∈ sp, -1000 ≤ s.1 + d ∧ s.2 + d ≤ 1000) (h4 : sp.length ≤ 4) (hw : ∀ s ∈ sp, s.2 - s.1 ≤ 6) : RowsOf (mvs d sp) gs (rows.map (mvx d)) :=
  R.via (sys_mv h hb) (mvx d) (fun x hx => hx.mv d h.gap) (fun x' hx' => ⟨mvx (-d) x', by
      have := hx'.mv (-d) (by rw [mvs_len]; exact h.gap)
      rwa [mvs_mvs] at this, by
      have := mvx_mvx (-d) x'
      rwa [Int.neg_neg] at this⟩) (fun x y _ _ e => by
      have := congrArg (mvx (-d)) e
      rwa [mvx_mvx, mvx_mvx] at this) (by rw [mvs_len]; exact h4) fun s hs => by
    obtain ⟨z, hz, rfl⟩ := List.mem_map.mp hs
    have := hw z hz
    simp only
    omega
theorem rows_back (h : Sys sp gs) (R : RowsOf sp gs rows) (h4 : sp.length ≤ 4) (hw : ∀ s ∈ sp, s.2 - s.1 ≤ 6) : RowsOf (nsp sp) (tgs gs) (rows.map ngx) :=
  R.via h.neg ngx (fun x hx => hx.neg) (fun x' hx' => ⟨ngx x', Sol.of_neg (by rw [ngx_ngx]; exact hx'), ngx_ngx x'⟩) (fun x y _ _ e => by
      have := congrArg ngx e
      rwa [ngx_ngx, ngx_ngx] at this) (by rw [nsp_len]; exact h4) fun s hs => by
    obtain ⟨z, hz, rfl⟩ := List.mem_map.mp hs
    have := hw z hz
    simp only
    omega
/-! ### numbered anew -/
def rnx (names : List Nat) (x : List Int) : List Int := names.map fun i => A x i
def rns (names : List Nat) (sp : List Span) : List Span := names.map fun i => (slo sp i, shi sp i)
def rng (names : List Nat) (gs : List Gap) : List Gap := gs.map fun g => (names.idxOf g.1, names.idxOf g.2.1, g.2.2)
theorem A_rnx {names : List Nat} {x : List Int} {k : Nat} (h : k < names.length) : A (rnx names x) k = A x names[k] := by
  rw [A_get (by simpa [rnx] using h)]
  simp [rnx]
theorem slo_rns {names : List Nat} {sp : List Span} {k : Nat} (h : k < names.length) : slo (rns names sp) k = slo sp names[k] := by
  unfold slo rns
  rw [List.getD_eq_getElem?_getD, List.getElem?_map, List.getElem?_eq_getElem h]; rfl
theorem shi_rns {names : List Nat} {sp : List Span} {k : Nat} (h : k < names.length) : shi (rns names sp) k = shi sp names[k] := by
  unfold shi rns
  rw [List.getD_eq_getElem?_getD, List.getElem?_map, List.getElem?_eq_getElem h]; rfl
structure Names (n : Nat) (names : List Nat) : Prop where
  len : names.length = n
  nd : names.Nodup
  mem : ∀ i, i ∈ names ↔ i < n
theorem names_of {n : Nat} {names : List Nat} (h : names.Perm (List.range n)) : Names n names :=
  ⟨by rw [h.length_eq, List.length_range], h.nodup_iff.mpr List.nodup_range, fun i => by rw [h.mem_iff, List.mem_range]⟩
theorem Names.at {n : Nat} {names : List Nat} (N : Names n names) {i : Nat} (hi : i < n) : ∃ h : names.idxOf i < names.length, names[names.idxOf i] = i :=
  ⟨List.idxOf_lt_length_of_mem ((N.mem i).mpr hi), List.getElem_idxOf _⟩
theorem Names.lt {n : Nat} {names : List Nat} (N : Names n names) {k : Nat} (hk : k < names.length) : names[k] < n := (N.mem _).mp (List.getElem_mem hk)
theorem sys_rn {names : List Nat} (N : Names sp.length names) (h : Sys sp gs) : Sys (rns names sp) (rng names gs) := by
  have nl := N.len
  refine ⟨by simp [rns, nl]; exact h.few, fun z hz => ?_, by simp [rng]; exact h.gfew, fun g hg => ?_, fun g hg => ?_⟩
  · obtain ⟨i, hi, rfl⟩ := List.mem_map.mp hz
    exact slo_shi h ((N.mem i).mp hi)
  · obtain ⟨q, hq, rfl⟩ := List.mem_map.mp hg
    obtain ⟨a, b, c⟩ := h.gap q hq
    obtain ⟨a1, a2⟩ := N.at a
    obtain ⟨b1, b2⟩ := N.at b
    refine ⟨by simpa [rns] using a1, by simpa [rns] using b1, fun e => c ?_⟩
    have e' : names.idxOf q.1 = names.idxOf q.2.1 := e
    have k : names[names.idxOf q.1] = names[names.idxOf q.2.1] := by simp only [e']
    rw [a2, b2] at k
    exact k
  · obtain ⟨q, hq, rfl⟩ := List.mem_map.mp hg
    exact h.gsz q hq
theorem Sol.rn {names : List Nat} (N : Names sp.length names) (h : Sys sp gs) {x : List Int} (hx : Sol sp gs x) : Sol (rns names sp) (rng names gs) (rnx names x) := by
  have nl := N.len
  refine ⟨by simp [rns, rnx], fun k hk => ?_, fun k hk => ?_, fun g hg => ?_⟩
  · have hk' : k < names.length := by simpa [rns] using hk
    rw [slo_rns hk', A_rnx hk']
    exact hx.low _ (N.lt hk')
  · have hk' : k < names.length := by simpa [rns] using hk
    rw [shi_rns hk', A_rnx hk']
    exact hx.high _ (N.lt hk')
  · obtain ⟨q, hq, rfl⟩ := List.mem_map.mp hg
    obtain ⟨a, b, c⟩ := h.gap q hq
    obtain ⟨a1, a2⟩ := N.at a
    obtain ⟨b1, b2⟩ := N.at b
    simp only
    rw [A_rnx a1, A_rnx b1, a2, b2]
    exact hx.gap q hq
theorem Sol.un {names : List Nat} (N : Names sp.length names) (h : Sys sp gs) {z : List Int} (hz : Sol (rns names sp) (rng names gs) z) : ∃ x, Sol sp gs x ∧ rnx names x = z := by
  have nl := N.len
  have zl := hz.len
  have rl : (rns names sp).length = names.length := by simp [rns]
  have e : ∀ i, i < sp.length → A ((List.range sp.length).map fun i => A z (names.idxOf i)) i = A z (names.idxOf i) := fun i hi => by
    unfold A
    rw [List.getD_eq_getElem?_getD, List.getElem?_map, List.getElem?_range hi]; rfl
  refine ⟨(List.range sp.length).map fun i => A z (names.idxOf i), ⟨by simp, fun i hi => ?_, fun i hi => ?_, fun g hg => ?_⟩, ?_⟩
  · obtain ⟨a1, a2⟩ := N.at hi
    have := hz.low _ (by rw [rl]; exact a1)
    rw [slo_rns a1, a2] at this
    rw [e i hi]; exact this
  · obtain ⟨a1, a2⟩ := N.at hi
    have := hz.high _ (by rw [rl]; exact a1)
    rw [shi_rns a1, a2] at this
    rw [e i hi]; exact this
  · obtain ⟨a, b, c⟩ := h.gap g hg
    rw [e _ a, e _ b]
    exact hz.gap (names.idxOf g.1, names.idxOf g.2.1, g.2.2) (List.mem_map.mpr ⟨g, hg, rfl⟩)
  · refine row_ext (by simp [rnx]; omega) fun k hk => ?_
    have hk' : k < names.length := by simpa [rnx] using hk
    rw [A_rnx hk', e _ (N.lt hk')]
    congr 1
    exact N.nd.idxOf_getElem k hk'
theorem rows_rn {names : List Nat} (N : Names sp.length names) (h : Sys sp gs) (R : RowsOf sp gs rows) (h4 : sp.length ≤ 4) (hw : ∀ s ∈ sp, s.2 - s.1 ≤ 6) : RowsOf (rns names sp) (rng names gs) (rows.map (rnx names)) :=
  R.via (sys_rn N h) (rnx names) (fun x hx => hx.rn N h) (fun z hz => Sol.un N h hz) (fun x y hx hy e => by
      refine row_ext (by rw [hx.len, hy.len]) fun i hi => ?_
      have hi' : i < sp.length := by rw [← hx.len]; exact hi
      obtain ⟨a1, a2⟩ := N.at hi'
      have this : A (rnx names x) (names.idxOf i) = A (rnx names y) (names.idxOf i) := by rw [e]
      rw [A_rnx a1, A_rnx a1, a2] at this
      exact this) (by simp [rns, N.len]; exact h4) fun s hs => by
    obtain ⟨i, hi, rfl⟩ := List.mem_map.mp hs
    have hi := (N.mem i).mp hi
    have e : sp.getD i (0, 0) = sp[i] := by rw [List.getD_eq_getElem?_getD, List.getElem?_eq_getElem hi]; rfl
    have f := hw _ (List.getElem_mem hi)
    unfold slo shi
    rw [e]
    exact f
/-! ### beside each other -/
def shg (n : Nat) (gs : List Gap) : List Gap := gs.map fun g => (g.1 + n, g.2.1 + n, g.2.2)
variable {sp2 : List Span} {gs2 : List Gap} {more : List (List Int)}
theorem sys_join (h : Sys sp gs) (h2 : Sys sp2 gs2) (hl : sp.length + sp2.length ≤ 7) (hg : gs.length + gs2.length ≤ 20) : Sys (sp ++ sp2) (gs ++ shg sp.length gs2) := by
  refine ⟨by simp; omega, fun z hz => (List.mem_append.mp hz).elim (h.span z) (h2.span z), by simp [shg]; omega, fun g hg => ?_, fun g hg => ?_⟩
  · rcases List.mem_append.mp hg with q | q
    · obtain ⟨a, b, c⟩ := h.gap g q
      exact ⟨by simp; omega, by simp; omega, c⟩
    · obtain ⟨r, hr, rfl⟩ := List.mem_map.mp q
      obtain ⟨a, b, c⟩ := h2.gap r hr
      exact ⟨by simp; omega, by simp; omega, by simp only; omega⟩
  · rcases List.mem_append.mp hg with q | q
    · exact h.gsz g q
    · obtain ⟨r, hr, rfl⟩ := List.mem_map.mp q
      exact h2.gsz r hr
theorem sol_join (h : Sys sp gs) (h2 : Sys sp2 gs2) {z : List Int} : Sol (sp ++ sp2) (gs ++ shg sp.length gs2) z ↔ ∃ x y, Sol sp gs x ∧ Sol sp2 gs2 y ∧ z = x ++ y := by
  constructor
  · intro q
    have zl := q.len
    rw [List.length_append] at zl
    have e : z = z.take sp.length ++ z.drop sp.length := (List.take_append_drop _ _).symm
    have l1 : (z.take sp.length).length = sp.length := by simp; omega
    have l2 : (z.drop sp.length).length = sp2.length := by simp; omega
    have a1 : ∀ i, i < sp.length → A (z.take sp.length) i = A z i := fun i hi => by
      conv => rhs; rw [e]
      exact (A_app_lt (by omega)).symm
    have a2 : ∀ i, A (z.drop sp.length) i = A z (i + sp.length) := fun i => by
      conv => rhs; rw [e]
      rw [A_app_ge (by omega), l1, Nat.add_sub_cancel]
    refine ⟨z.take sp.length, z.drop sp.length, ⟨l1, fun i hi => ?_, fun i hi => ?_, fun g hg => ?_⟩, ⟨l2, fun i hi => ?_, fun i hi => ?_, fun g hg => ?_⟩, e⟩
    · have := q.low i (by simp; omega)
      rw [slo_app_lt hi] at this
      rw [a1 i hi]; exact this
    · have := q.high i (by simp; omega)
      rw [shi_app_lt hi] at this
      rw [a1 i hi]; exact this
    · obtain ⟨a, b, _⟩ := h.gap g hg
      rw [a1 _ a, a1 _ b]
      exact q.gap g (List.mem_append_left _ hg)
    · have := q.low (i + sp.length) (by simp; omega)
      rw [slo_app_ge (by omega), Nat.add_sub_cancel] at this
      rw [a2]; exact this
    · have := q.high (i + sp.length) (by simp; omega)
      rw [shi_app_ge (by omega), Nat.add_sub_cancel] at this
      rw [a2]; exact this
    · have := q.gap (g.1 + sp.length, g.2.1 + sp.length, g.2.2) (List.mem_append_right _ (List.mem_map.mpr ⟨g, hg, rfl⟩))
      simp only at this
      rw [a2, a2]; exact this
  · rintro ⟨x, y, hx, hy, rfl⟩
    have xl := hx.len
    have yl := hy.len
    refine ⟨by simp [xl, yl], fun i hi => ?_, fun i hi => ?_, fun g hg => ?_⟩
    · rw [List.length_append] at hi
      by_cases hlt : i < sp.length
      · rw [slo_app_lt hlt, A_app_lt (by omega)]; exact hx.low i hlt
      · rw [slo_app_ge (by omega), A_app_ge (by omega), xl]; exact hy.low _ (by omega)
    · rw [List.length_append] at hi
      by_cases hlt : i < sp.length
      · rw [shi_app_lt hlt, A_app_lt (by omega)]; exact hx.high i hlt
      · rw [shi_app_ge (by omega), A_app_ge (by omega), xl]; exact hy.high _ (by omega)
    · rcases List.mem_append.mp hg with q | q
      · obtain ⟨a, b, _⟩ := h.gap g q
        rw [A_app_lt (by omega), A_app_lt (by omega)]
        exact hx.gap g q
      · obtain ⟨r, hr, rfl⟩ := List.mem_map.mp q
        simp only
        rw [A_app_ge (by omega), A_app_ge (by omega), xl, Nat.add_sub_cancel, Nat.add_sub_cancel]
        exact hy.gap r hr
def joinR (rows more : List (List Int)) : List (List Int) := rows.flatMap fun x => more.map fun y => x ++ y
theorem cntRows_app (J : List Gap) (p q : List Span) (h : ∀ s ∈ q, s.1 ≤ s.2 ∧ s.2 - s.1 ≤ 6) : (cntRows J (p ++ q)).length ≤ (cntRows J p).length * 7 ^ q.length := by
  induction q using snoc_ind with
  | h0 => simp
  | h1 q s ih =>
    have ih' := ih fun z hz => h z (List.mem_append_left _ hz)
    have hs := h s (List.mem_append_right _ List.mem_cons_self)
    rw [← List.append_assoc, cntRows_snoc]
    have a := List.length_filter_le (suitsB J) (grown1 (cntRows J (p ++ q)) s)
    rw [grown1_len] at a
    have b : (cntRows J (p ++ q)).length * (s.2 + 1 - s.1).toNat ≤ ((cntRows J p).length * 7 ^ q.length) * 7 := Nat.mul_le_mul ih' (by omega)
    rw [List.length_append, List.length_singleton, Nat.pow_succ, ← Nat.mul_assoc]
    omega
theorem rows_join (h : Sys sp gs) (h2 : Sys sp2 gs2) (R : RowsOf sp gs rows) (R2 : RowsOf sp2 gs2 more) (hl : sp.length ≤ 4) (hl2 : sp2.length ≤ 2) (hg : gs.length + gs2.length ≤ 20) (hw : ∀ s ∈ sp, s.2 - s.1 ≤ 6) (hw2 : ∀ s ∈ sp2, s.2 - s.1 ≤ 6) (hm : rows.length * more.length ≤ 400) :
    RowsOf (sp ++ sp2) (gs ++ shg sp.length gs2) (joinR rows more) := by
  have hj := sys_join h h2 (by omega) hg
  have mem : ∀ z, z ∈ joinR rows more ↔ Sol (sp ++ sp2) (gs ++ shg sp.length gs2) z := fun z => by
    rw [sol_join h h2]
    unfold joinR
    rw [List.mem_flatMap]
    constructor
    · rintro ⟨x, hx, hz⟩
      obtain ⟨y, hy, rfl⟩ := List.mem_map.mp hz
      exact ⟨x, y, (R.mem x).mp hx, (R2.mem y).mp hy, rfl⟩
    · rintro ⟨x, y, hx, hy, rfl⟩
      exact ⟨x, (R.mem x).mpr hx, List.mem_map.mpr ⟨y, (R2.mem y).mpr hy, rfl⟩⟩
  have len : (joinR rows more).length = rows.length * more.length := by
    unfold joinR
    rw [List.length_flatMap]
    clear hm mem R
    induction rows with
    | nil => simp
    | cons r rows ih => rw [List.map_cons, List.sum_cons, ih, List.length_map, List.length_cons, Nat.add_mul, Nat.one_mul, Nat.add_comm]
  refine ⟨?_, mem, by omega, fun hne => ?_⟩
  · unfold joinR
    rw [List.nodup_iff_pairwise_ne, List.pairwise_flatMap]
    have xs : ∀ x ∈ rows, x.length = sp.length := fun x hx => ((R.mem x).mp hx).len
    refine ⟨fun r _ => List.Pairwise.map _ (fun a b hab z => hab (List.append_cancel_left z)) (List.nodup_iff_pairwise_ne.mp R2.nd), ?_⟩
    have key : ∀ l : List (List Int), (∀ x ∈ l, x.length = sp.length) → l.Pairwise (· ≠ ·) → l.Pairwise fun a₁ a₂ => ∀ x ∈ more.map (fun y => a₁ ++ y), ∀ y ∈ more.map (fun y => a₂ ++ y), x ≠ y := fun l hll hp => by
      induction l with
      | nil => exact List.Pairwise.nil
      | cons a l ih =>
        obtain ⟨p1, p2⟩ := List.pairwise_cons.mp hp
        refine List.pairwise_cons.mpr ⟨fun b hb x hx y hy z => ?_, ih (fun x hx => hll x (List.mem_cons_of_mem _ hx)) p2⟩
        obtain ⟨u, _, rfl⟩ := List.mem_map.mp hx
        obtain ⟨v, _, rfl⟩ := List.mem_map.mp hy
        exact p1 b hb (List.append_inj_left z (by rw [hll a List.mem_cons_self, hll b (List.mem_cons_of_mem _ hb)]))
    exact key rows xs (List.nodup_iff_pairwise_ne.mp R.nd)
  · obtain ⟨z, hz⟩ := List.exists_mem_of_ne_nil _ hne
    have hz := (mem z).mp hz
    obtain ⟨x, y, hx, hy, _⟩ := (sol_join h h2).mp hz
    have m1' : 0 < more.length := List.length_pos_iff.mpr (List.ne_nil_of_mem ((R2.mem y).mpr hy))
    have r400 : rows.length ≤ 400 := by
      have : rows.length * 1 ≤ rows.length * more.length := Nat.mul_le_mul_left _ m1'
      omega
    have thin := bnds_thin hj hz (fun s hs => (List.mem_append.mp hs).elim (hw s) (hw2 s))
    obtain ⟨_, jl, _⟩ := least_sol hj hz
    obtain ⟨jm, _⟩ := most_sol hj hz
    intro pre s post e
    have bl : (bnds (sp ++ sp2) (gs ++ shg sp.length gs2)).length = sp.length + sp2.length := by rw [bnds_len, List.length_append]
    have el : pre.length + 1 + post.length = sp.length + sp2.length := by
      have := congrArg List.length e
      rw [bl] at this
      simp at this
      omega
    have hs := thin s (by rw [e]; simp)
    have hpre : ∀ z ∈ pre, z.1 ≤ z.2 ∧ z.2 - z.1 ≤ 6 := fun z hz => thin z (by rw [e]; simp [hz])
    by_cases hlt : pre.length < sp.length
    · have a := cntRows_len (gs ++ shg sp.length gs2) pre hpre
      have b : 7 ^ pre.length ≤ 7 ^ 3 := Nat.pow_le_pow_right (by decide) (by omega)
      have c : (cntRows (gs ++ shg sp.length gs2) pre).length ≤ 343 := Nat.le_trans a b
      have d : ((cntRows (gs ++ shg sp.length gs2) pre).length : Int) * (s.2 - s.1 + 1) ≤ 343 * 7 := Int.mul_le_mul (by omega) (by omega) (by omega) (by omega)
      omega
    · have e1 : pre = pre.take sp.length ++ pre.drop sp.length := (List.take_append_drop _ _).symm
      have tl : (pre.take sp.length).length = sp.length := by simp; omega
      have dl : (pre.drop sp.length).length ≤ 1 := by simp; omega
      have a := cntRows_app (gs ++ shg sp.length gs2) (pre.take sp.length) (pre.drop sp.length) fun z hz => hpre z (List.mem_of_mem_drop hz)
      rw [← e1] at a
      have sub : (cntRows (gs ++ shg sp.length gs2) (pre.take sp.length)).length ≤ rows.length := by
        refine List.Nodup.length_le_of_subset (cntRows_ok _ _).1 fun r hr => ?_
        obtain ⟨⟨q1, q2⟩, q3⟩ := ((cntRows_ok _ _).2 r).mp hr
        rw [tl] at q1 q2
        refine (R.mem r).mpr ((sol_iff h).mpr ⟨⟨q1, fun i hi => ?_⟩, fun g hg u v => q3 g (List.mem_append_left _ hg) u v⟩)
        have := q2 i hi
        have eb : bnds (sp ++ sp2) (gs ++ shg sp.length gs2) = pre.take sp.length ++ (pre.drop sp.length ++ s :: post) := by rw [e, ← List.append_assoc, List.take_append_drop]
        have b1 := slo_bnds (sp := sp ++ sp2) (gs := gs ++ shg sp.length gs2) (i := i) (by simp; omega)
        have b2 := shi_bnds (sp := sp ++ sp2) (gs := gs ++ shg sp.length gs2) (i := i) (by simp; omega)
        rw [eb, slo_app_lt (by omega)] at b1
        rw [eb, shi_app_lt (by omega)] at b2
        have c1 := jl.low i (by simp; omega)
        have c2 := jm.high i (by simp; omega)
        rw [slo_app_lt hi] at c1
        rw [shi_app_lt hi] at c2
        omega
      have b : 7 ^ (pre.drop sp.length).length ≤ 7 ^ 1 := Nat.pow_le_pow_right (by decide) dl
      have c : (cntRows (gs ++ shg sp.length gs2) pre).length ≤ 400 * 7 := Nat.le_trans a (Nat.mul_le_mul (Nat.le_trans sub r400) b)
      have d : ((cntRows (gs ++ shg sp.length gs2) pre).length : Int) * (s.2 - s.1 + 1) ≤ 2800 * 7 := Int.mul_le_mul (by omega) (by omega) (by omega) (by omega)
      omega
end
end K64

set_option Elab.async false
set_option linter.all false
set_option maxRecDepth 100000
set_option maxHeartbeats 4000000
namespace K64
open PySem PySem.Spec PyProof.Rows L2 Mini
theorem ix_bnds {sp : List Span} {gs : List Gap} {i : Nat} (hi : i < sp.length) : dIx (SD (bnds sp gs)) (.int ((i : Nat) : Int)) = some (sD (A (least sp gs) i, A (most sp gs) i)) := by
  rw [ix_s (by rw [bnds_len]; exact hi), slo_bnds hi, shi_bnds hi]
theorem dAdd_tup {xs ys : List PyData} (h : xs.length + ys.length ≤ 1000000) : dAdd (.tuple xs) (.tuple ys) = some (.tuple (xs ++ ys)) := if_pos h
theorem ev_fixed {sp : List Span} {i : Nat} {y : Int} {S : SEnv} (hl : sp.length ≤ 7) (hi : i < sp.length) (h0 : S[0]? = some (.val (SD sp))) (h2 : S[2]? = some (.val (.int ((i : Nat) : Int)))) (h9 : S[9]? = some (.val (.int y))) :
    (m2 dAdd (m2 dAdd (mCut (mLook 0) mNoP (mPt (mVar 2))) (mTup (mCons (mTup (mCons (mVar 9) (mCons (mVar 9) mNil))) mNil))) (mCut (mLook 0) (mPt (m2 dAdd (mLook 2) (mC (.int 1)))) mNoP)) S w0 = some (SD (fixd sp i y), w0) := by
  have c1 : Mini.cutD (sp.map sD) none (some ((i : Nat) : Int)) = (sp.take i).map sD := by rw [cutD_take (by simp; omega), List.map_take]
  have e1 : ((i : Nat) : Int) + 1 = ((i + 1 : Nat) : Int) := by omega
  have c2 : Mini.cutD (sp.map sD) (some (((i : Nat) : Int) + 1)) none = (sp.drop (i + 1)).map sD := by rw [e1, cutD_drop (by simp; omega), List.map_drop]
  have l1 : (1 : Nat) ≤ LB := by decide
  have l2 : (2 : Nat) ≤ LB := by decide
  have a1 : dAdd (.tuple ((sp.take i).map sD)) (.tuple [.tuple [.int y, .int y]]) = some (.tuple ((sp.take i ++ [(y, y)]).map sD)) := by
    rw [dAdd_tup (by simp; omega), List.map_append]; rfl
  have a2 : dAdd (.tuple ((sp.take i ++ [(y, y)]).map sD)) (.tuple ((sp.drop (i + 1)).map sD)) = some (SD (fixd sp i y)) := by
    rw [dAdd_tup (by simp; omega), ← List.map_append]; rfl
  refine m2_of (d := .tuple ((sp.take i ++ [(y, y)]).map sD)) (w1 := w0) (m2_of (d := .tuple ((sp.take i).map sD)) (w1 := w0) ?_ (d2 := .tuple [.tuple [.int y, .int y]]) (w2 := w0) ?_ a1) (d2 := .tuple ((sp.drop (i + 1)).map sD)) (w2 := w0) ?_ a2
  · simp only [runM, runS, env0, flD, cal, sSeq, sIf, sRet, sRetN, sDrop, sAsg, sOwn, sFrz, frz, sPar, sPar3, sParF, sParF3, mkSl, sNx, sNo, sBk, sCt, sApp, sExt, sSetIx, sAug, sFor, sWhile, m1, m2, mC, mVar, mLook, mAnd, mOr, mNot, mIte, mB, mV, mTru, dTru, mAndV, mOrV, mNotV, mNil, mCons, mTup, mLst, mF, mFS, mItems, mRng, mRng1, mRng2, mRng3, dRng1, dRng2, dRng3, mEnum, mZip, mEnumA, mZipA, mCut, mNoP, mPt, mRev, mNeg, dNeg, dRev, dCut, mLc, mYes, pName, pTup, pTupL, pNil, pCons, wipeS, dAdd, dSub, dMul, dDiv, dMod, dMulI, dAddI, dCmp, dIsN, dNotN, isNone, dLenX, dLen, seqOf, dAbs, dMax2, dMin2, dInt, dTuple, dList, dCatL, dRepL, mSt, mStLen, mStCell, sSt, sSt3, drwGet, drwSet, mCh2, mCh3, mCount, dCount, Option.bind_some, Option.map_some, Option.bind_none, Option.map_none, List.getElem?_cons_zero, List.getElem?_cons_succ, List.set_cons_zero, List.set_cons_succ, List.map_cons, List.map_nil, List.cons_append, List.nil_append, List.replicate_succ, List.replicate_zero, List.length_cons, List.length_nil, if_true, if_false, reduceIte, Bool.false_eq_true, Bool.not_true, Bool.not_false, decide_true, decide_false, h0, h2, SD, c1]
  · simp only [runM, runS, env0, flD, cal, sSeq, sIf, sRet, sRetN, sDrop, sAsg, sOwn, sFrz, frz, sPar, sPar3, sParF, sParF3, mkSl, sNx, sNo, sBk, sCt, sApp, sExt, sSetIx, sAug, sFor, sWhile, m1, m2, mC, mVar, mLook, mAnd, mOr, mNot, mIte, mB, mV, mTru, dTru, mAndV, mOrV, mNotV, mNil, mCons, mTup, mLst, mF, mFS, mItems, mRng, mRng1, mRng2, mRng3, dRng1, dRng2, dRng3, mEnum, mZip, mEnumA, mZipA, mCut, mNoP, mPt, mRev, mNeg, dNeg, dRev, dCut, mLc, mYes, pName, pTup, pTupL, pNil, pCons, wipeS, dAdd, dSub, dMul, dDiv, dMod, dMulI, dAddI, dCmp, dIsN, dNotN, isNone, dLenX, dLen, seqOf, dAbs, dMax2, dMin2, dInt, dTuple, dList, dCatL, dRepL, mSt, mStLen, mStCell, sSt, sSt3, drwGet, drwSet, mCh2, mCh3, mCount, dCount, Option.bind_some, Option.map_some, Option.bind_none, Option.map_none, List.getElem?_cons_zero, List.getElem?_cons_succ, List.set_cons_zero, List.set_cons_succ, List.map_cons, List.map_nil, List.cons_append, List.nil_append, List.replicate_succ, List.replicate_zero, List.length_cons, List.length_nil, if_true, if_false, reduceIte, Bool.false_eq_true, Bool.not_true, Bool.not_false, decide_true, decide_false, h9, Nat.zero_add, Nat.reduceAdd, if_pos l1, if_pos l2]
  · simp only [runM, runS, env0, flD, cal, sSeq, sIf, sRet, sRetN, sDrop, sAsg, sOwn, sFrz, frz, sPar, sPar3, sParF, sParF3, mkSl, sNx, sNo, sBk, sCt, sApp, sExt, sSetIx, sAug, sFor, sWhile, m1, m2, mC, mVar, mLook, mAnd, mOr, mNot, mIte, mB, mV, mTru, dTru, mAndV, mOrV, mNotV, mNil, mCons, mTup, mLst, mF, mFS, mItems, mRng, mRng1, mRng2, mRng3, dRng1, dRng2, dRng3, mEnum, mZip, mEnumA, mZipA, mCut, mNoP, mPt, mRev, mNeg, dNeg, dRev, dCut, mLc, mYes, pName, pTup, pTupL, pNil, pCons, wipeS, dAdd, dSub, dMul, dDiv, dMod, dMulI, dAddI, dCmp, dIsN, dNotN, isNone, dLenX, dLen, seqOf, dAbs, dMax2, dMin2, dInt, dTuple, dList, dCatL, dRepL, mSt, mStLen, mStCell, sSt, sSt3, drwGet, drwSet, mCh2, mCh3, mCount, dCount, Option.bind_some, Option.map_some, Option.bind_none, Option.map_none, List.getElem?_cons_zero, List.getElem?_cons_succ, List.set_cons_zero, List.set_cons_succ, List.map_cons, List.map_nil, List.cons_append, List.nil_append, List.replicate_succ, List.replicate_zero, List.length_cons, List.length_nil, if_true, if_false, reduceIte, Bool.false_eq_true, Bool.not_true, Bool.not_false, decide_true, decide_false, h0, h2, SD, c2]
theorem ev_least_gap {sp : List Span} {gs : List Gap} (h : Sys sp gs) {x : List Int} (hx : Sol sp gs x) {i o : Nat} (hi : i < sp.length) (ho : o < sp.length) : G_least_gap [SD sp, GD gs, .int ((i : Nat) : Int), .int ((o : Nat) : Int)] = some (.int (lgap sp gs i o)) := by
  have f7 := h.few
  have cr := ev_check_right h hx
  have bo := ev_bounds h hx
  obtain ⟨_, l2, l3⟩ := least_sol h hx
  obtain ⟨m2', m3⟩ := most_sol h hx
  have sb := slo_shi h hi
  have i1 := ix_bnds (sp := sp) (gs := gs) hi
  have jd : ∀ {y : Int} {z : List Int}, Sol sp gs z → A z i = y → G_judge_layers [SD (fixd sp i y), GD gs] = some (.tuple [.str "years", rowD (least (fixd sp i y) gs)]) ∧ (least (fixd sp i y) gs).length = sp.length := fun {y z} hz e => by
    have a := hz.low i hi
    have b := hz.high i hi
    have hf := h.fixd (y := y) hi (by omega) (by omega)
    have q := (sol_fixd hi (by omega) (by omega)).mpr ⟨hz, e⟩
    exact ⟨judged_years hf q, by rw [(least_sol hf q).2.1.len, fixd_len hi]⟩
  obtain ⟨j1, k1⟩ := jd l2 rfl
  obtain ⟨j2, k2⟩ := jd m2' rfl
  have x1 := ix_r (y := least (fixd sp i (A (least sp gs) i)) gs) (a := o) (by rw [k1]; exact ho)
  have x2 := ix_r (y := least (fixd sp i (A (most sp gs) i)) gs) (a := o) (by rw [k2]; exact ho)
  have l0 : (0 : Nat) ≤ LB := by decide
  have l1 : (1 : Nat) ≤ LB := by decide
  have lt : (2 : Nat) ≤ LB := by decide
  have n0 : (0 : Int) ≤ ((i : Nat) : Int) := by omega
  have n1 : ((i : Nat) : Int) < ((sp.length : Nat) : Int) := by omega
  have n2 : (0 : Int) ≤ ((o : Nat) : Int) := by omega
  have n3 : ((o : Nat) : Int) < ((sp.length : Nat) : Int) := by omega
  unfold G_least_gap
  refine runM_rt [.val (SD sp), .val (GD gs), .val (.int ((i : Nat) : Int)), .val (.int ((o : Nat) : Int)), .no, .no, .no, .no, .no, .no, .no] rfl ?_
  unfold m_least_gap
  rw [seq_nx (S1 := [.val (SD sp), .val (GD gs), .val (.int ((i : Nat) : Int)), .val (.int ((o : Nat) : Int)), .no, .no, .no, .no, .no, .no, .no]) (w1 := w0) (by simp only [runM, runS, env0, flD, cal, sSeq, sIf, sRet, sRetN, sDrop, sAsg, sOwn, sFrz, frz, sPar, sPar3, sParF, sParF3, mkSl, sNx, sNo, sBk, sCt, sApp, sExt, sSetIx, sAug, sFor, sWhile, m1, m2, mC, mVar, mLook, mAnd, mOr, mNot, mIte, mB, mV, mTru, dTru, mAndV, mOrV, mNotV, mNil, mCons, mTup, mLst, mF, mFS, mItems, mRng, mRng1, mRng2, mRng3, dRng1, dRng2, dRng3, mEnum, mZip, mEnumA, mZipA, mCut, mNoP, mPt, mRev, mNeg, dNeg, dRev, dCut, mLc, mYes, pName, pTup, pTupL, pNil, pCons, wipeS, dAdd, dSub, dMul, dDiv, dMod, dMulI, dAddI, dCmp, dIsN, dNotN, isNone, dLenX, dLen, seqOf, dAbs, dMax2, dMin2, dInt, dTuple, dList, dCatL, dRepL, mSt, mStLen, mStCell, sSt, sSt3, drwGet, drwSet, mCh2, mCh3, mCount, dCount, Option.bind_some, Option.map_some, Option.bind_none, Option.map_none, List.getElem?_cons_zero, List.getElem?_cons_succ, List.set_cons_zero, List.set_cons_succ, List.map_cons, List.map_nil, List.cons_append, List.nil_append, List.replicate_succ, List.replicate_zero, List.length_cons, List.length_nil, if_true, if_false, reduceIte, Bool.false_eq_true, Bool.not_true, Bool.not_false, decide_true, decide_false, Nat.zero_add, Nat.reduceAdd, cr])]
  rw [seq_nx (S1 := [.val (SD sp), .val (GD gs), .val (.int ((i : Nat) : Int)), .val (.int ((o : Nat) : Int)), .val (.str "other"), .val (.int ((o : Nat) : Int)), .no, .no, .no, .no, .no]) (w1 := w0) (sFor_of (ds := [.tuple [.str "one", .int ((i : Nat) : Int)], .tuple [.str "other", .int ((o : Nat) : Int)]]) (w1 := w0) (by simp only [runM, runS, env0, flD, cal, sSeq, sIf, sRet, sRetN, sDrop, sAsg, sOwn, sFrz, frz, sPar, sPar3, sParF, sParF3, mkSl, sNx, sNo, sBk, sCt, sApp, sExt, sSetIx, sAug, sFor, sWhile, m1, m2, mC, mVar, mLook, mAnd, mOr, mNot, mIte, mB, mV, mTru, dTru, mAndV, mOrV, mNotV, mNil, mCons, mTup, mLst, mF, mFS, mItems, mRng, mRng1, mRng2, mRng3, dRng1, dRng2, dRng3, mEnum, mZip, mEnumA, mZipA, mCut, mNoP, mPt, mRev, mNeg, dNeg, dRev, dCut, mLc, mYes, pName, pTup, pTupL, pNil, pCons, wipeS, dAdd, dSub, dMul, dDiv, dMod, dMulI, dAddI, dCmp, dIsN, dNotN, isNone, dLenX, dLen, seqOf, dAbs, dMax2, dMin2, dInt, dTuple, dList, dCatL, dRepL, mSt, mStLen, mStCell, sSt, sSt3, drwGet, drwSet, mCh2, mCh3, mCount, dCount, Option.bind_some, Option.map_some, Option.bind_none, Option.map_none, List.getElem?_cons_zero, List.getElem?_cons_succ, List.set_cons_zero, List.set_cons_succ, List.map_cons, List.map_nil, List.cons_append, List.nil_append, List.replicate_succ, List.replicate_zero, List.length_cons, List.length_nil, if_true, if_false, reduceIte, Bool.false_eq_true, Bool.not_true, Bool.not_false, decide_true, decide_false, Nat.zero_add, Nat.reduceAdd, if_pos lt]) (by
    rw [forGo_cons]
    simp only [runM, runS, env0, flD, cal, sSeq, sIf, sRet, sRetN, sDrop, sAsg, sOwn, sFrz, frz, sPar, sPar3, sParF, sParF3, mkSl, sNx, sNo, sBk, sCt, sApp, sExt, sSetIx, sAug, sFor, sWhile, m1, m2, mC, mVar, mLook, mAnd, mOr, mNot, mIte, mB, mV, mTru, dTru, mAndV, mOrV, mNotV, mNil, mCons, mTup, mLst, mF, mFS, mItems, mRng, mRng1, mRng2, mRng3, dRng1, dRng2, dRng3, mEnum, mZip, mEnumA, mZipA, mCut, mNoP, mPt, mRev, mNeg, dNeg, dRev, dCut, mLc, mYes, pName, pTup, pTupL, pNil, pCons, wipeS, dAdd, dSub, dMul, dDiv, dMod, dMulI, dAddI, dCmp, dIsN, dNotN, isNone, dLenX, dLen, seqOf, dAbs, dMax2, dMin2, dInt, dTuple, dList, dCatL, dRepL, mSt, mStLen, mStCell, sSt, sSt3, drwGet, drwSet, mCh2, mCh3, mCount, dCount, Option.bind_some, Option.map_some, Option.bind_none, Option.map_none, List.getElem?_cons_zero, List.getElem?_cons_succ, List.set_cons_zero, List.set_cons_succ, List.map_cons, List.map_nil, List.cons_append, List.nil_append, List.replicate_succ, List.replicate_zero, List.length_cons, List.length_nil, if_true, if_false, reduceIte, Bool.false_eq_true, Bool.not_true, Bool.not_false, decide_true, decide_false, SD, List.length_map, ev_is_integer, Nat.zero_add, Nat.reduceAdd, n0, n1]
    rw [forGo_cons]
    simp only [runM, runS, env0, flD, cal, sSeq, sIf, sRet, sRetN, sDrop, sAsg, sOwn, sFrz, frz, sPar, sPar3, sParF, sParF3, mkSl, sNx, sNo, sBk, sCt, sApp, sExt, sSetIx, sAug, sFor, sWhile, m1, m2, mC, mVar, mLook, mAnd, mOr, mNot, mIte, mB, mV, mTru, dTru, mAndV, mOrV, mNotV, mNil, mCons, mTup, mLst, mF, mFS, mItems, mRng, mRng1, mRng2, mRng3, dRng1, dRng2, dRng3, mEnum, mZip, mEnumA, mZipA, mCut, mNoP, mPt, mRev, mNeg, dNeg, dRev, dCut, mLc, mYes, pName, pTup, pTupL, pNil, pCons, wipeS, dAdd, dSub, dMul, dDiv, dMod, dMulI, dAddI, dCmp, dIsN, dNotN, isNone, dLenX, dLen, seqOf, dAbs, dMax2, dMin2, dInt, dTuple, dList, dCatL, dRepL, mSt, mStLen, mStCell, sSt, sSt3, drwGet, drwSet, mCh2, mCh3, mCount, dCount, Option.bind_some, Option.map_some, Option.bind_none, Option.map_none, List.getElem?_cons_zero, List.getElem?_cons_succ, List.set_cons_zero, List.set_cons_succ, List.map_cons, List.map_nil, List.cons_append, List.nil_append, List.replicate_succ, List.replicate_zero, List.length_cons, List.length_nil, if_true, if_false, reduceIte, Bool.false_eq_true, Bool.not_true, Bool.not_false, decide_true, decide_false, SD, List.length_map, ev_is_integer, Nat.zero_add, Nat.reduceAdd, n2, n3]
    rfl))]
  rw [seq_nx (S1 := [.val (SD sp), .val (GD gs), .val (.int ((i : Nat) : Int)), .val (.int ((o : Nat) : Int)), .val (.str "other"), .val (.int ((o : Nat) : Int)), .val (.int (A (least sp gs) i)), .val (.int (A (most sp gs) i)), .no, .no, .no]) (w1 := w0) (by
    simp only [runM, runS, env0, flD, cal, sSeq, sIf, sRet, sRetN, sDrop, sAsg, sOwn, sFrz, frz, sPar, sPar3, sParF, sParF3, mkSl, sNx, sNo, sBk, sCt, sApp, sExt, sSetIx, sAug, sFor, sWhile, m1, m2, mC, mVar, mLook, mAnd, mOr, mNot, mIte, mB, mV, mTru, dTru, mAndV, mOrV, mNotV, mNil, mCons, mTup, mLst, mF, mFS, mItems, mRng, mRng1, mRng2, mRng3, dRng1, dRng2, dRng3, mEnum, mZip, mEnumA, mZipA, mCut, mNoP, mPt, mRev, mNeg, dNeg, dRev, dCut, mLc, mYes, pName, pTup, pTupL, pNil, pCons, wipeS, dAdd, dSub, dMul, dDiv, dMod, dMulI, dAddI, dCmp, dIsN, dNotN, isNone, dLenX, dLen, seqOf, dAbs, dMax2, dMin2, dInt, dTuple, dList, dCatL, dRepL, mSt, mStLen, mStCell, sSt, sSt3, drwGet, drwSet, mCh2, mCh3, mCount, dCount, Option.bind_some, Option.map_some, Option.bind_none, Option.map_none, List.getElem?_cons_zero, List.getElem?_cons_succ, List.set_cons_zero, List.set_cons_succ, List.map_cons, List.map_nil, List.cons_append, List.nil_append, List.replicate_succ, List.replicate_zero, List.length_cons, List.length_nil, if_true, if_false, reduceIte, Bool.false_eq_true, Bool.not_true, Bool.not_false, decide_true, decide_false, Nat.zero_add, Nat.reduceAdd, bo, i1, sD])]
  rw [seq_nx (S1 := [.val (SD sp), .val (GD gs), .val (.int ((i : Nat) : Int)), .val (.int ((o : Nat) : Int)), .val (.str "other"), .val (.int ((o : Nat) : Int)), .val (.int (A (least sp gs) i)), .val (.int (A (most sp gs) i)), .own (.list []), .no, .no]) (w1 := w0) (by simp only [runM, runS, env0, flD, cal, sSeq, sIf, sRet, sRetN, sDrop, sAsg, sOwn, sFrz, frz, sPar, sPar3, sParF, sParF3, mkSl, sNx, sNo, sBk, sCt, sApp, sExt, sSetIx, sAug, sFor, sWhile, m1, m2, mC, mVar, mLook, mAnd, mOr, mNot, mIte, mB, mV, mTru, dTru, mAndV, mOrV, mNotV, mNil, mCons, mTup, mLst, mF, mFS, mItems, mRng, mRng1, mRng2, mRng3, dRng1, dRng2, dRng3, mEnum, mZip, mEnumA, mZipA, mCut, mNoP, mPt, mRev, mNeg, dNeg, dRev, dCut, mLc, mYes, pName, pTup, pTupL, pNil, pCons, wipeS, dAdd, dSub, dMul, dDiv, dMod, dMulI, dAddI, dCmp, dIsN, dNotN, isNone, dLenX, dLen, seqOf, dAbs, dMax2, dMin2, dInt, dTuple, dList, dCatL, dRepL, mSt, mStLen, mStCell, sSt, sSt3, drwGet, drwSet, mCh2, mCh3, mCount, dCount, Option.bind_some, Option.map_some, Option.bind_none, Option.map_none, List.getElem?_cons_zero, List.getElem?_cons_succ, List.set_cons_zero, List.set_cons_succ, List.map_cons, List.map_nil, List.cons_append, List.nil_append, List.replicate_succ, List.replicate_zero, List.length_cons, List.length_nil, if_true, if_false, reduceIte, Bool.false_eq_true, Bool.not_true, Bool.not_false, decide_true, decide_false, if_pos l0])]
  rw [seq_nx (S1 := [.val (SD sp), .val (GD gs), .val (.int ((i : Nat) : Int)), .val (.int ((o : Nat) : Int)), .val (.str "other"), .val (.int ((o : Nat) : Int)), .val (.int (A (least sp gs) i)), .val (.int (A (most sp gs) i)),
    .own (.list [.int (A (least (fixd sp i (A (least sp gs) i)) gs) o - A (least sp gs) i), .int (A (least (fixd sp i (A (most sp gs) i)) gs) o - A (most sp gs) i)]), .val (.int (A (most sp gs) i)), .val (SD (fixd sp i (A (most sp gs) i)))]) (w1 := w0)
    (sFor_of (ds := [.int (A (least sp gs) i), .int (A (most sp gs) i)]) (w1 := w0) (by simp only [runM, runS, env0, flD, cal, sSeq, sIf, sRet, sRetN, sDrop, sAsg, sOwn, sFrz, frz, sPar, sPar3, sParF, sParF3, mkSl, sNx, sNo, sBk, sCt, sApp, sExt, sSetIx, sAug, sFor, sWhile, m1, m2, mC, mVar, mLook, mAnd, mOr, mNot, mIte, mB, mV, mTru, dTru, mAndV, mOrV, mNotV, mNil, mCons, mTup, mLst, mF, mFS, mItems, mRng, mRng1, mRng2, mRng3, dRng1, dRng2, dRng3, mEnum, mZip, mEnumA, mZipA, mCut, mNoP, mPt, mRev, mNeg, dNeg, dRev, dCut, mLc, mYes, pName, pTup, pTupL, pNil, pCons, wipeS, dAdd, dSub, dMul, dDiv, dMod, dMulI, dAddI, dCmp, dIsN, dNotN, isNone, dLenX, dLen, seqOf, dAbs, dMax2, dMin2, dInt, dTuple, dList, dCatL, dRepL, mSt, mStLen, mStCell, sSt, sSt3, drwGet, drwSet, mCh2, mCh3, mCount, dCount, Option.bind_some, Option.map_some, Option.bind_none, Option.map_none, List.getElem?_cons_zero, List.getElem?_cons_succ, List.set_cons_zero, List.set_cons_succ, List.map_cons, List.map_nil, List.cons_append, List.nil_append, List.replicate_succ, List.replicate_zero, List.length_cons, List.length_nil, if_true, if_false, reduceIte, Bool.false_eq_true, Bool.not_true, Bool.not_false, decide_true, decide_false, Nat.zero_add, Nat.reduceAdd, if_pos lt]) (by
      rw [forGo_cons, show pName 9 (.int (A (least sp gs) i)) [Sl.val (SD sp), .val (GD gs), .val (.int ((i : Nat) : Int)), .val (.int ((o : Nat) : Int)), .val (.str "other"), .val (.int ((o : Nat) : Int)), .val (.int (A (least sp gs) i)), .val (.int (A (most sp gs) i)), .own (.list []), .no, .no] = some [.val (SD sp), .val (GD gs), .val (.int ((i : Nat) : Int)), .val (.int ((o : Nat) : Int)), .val (.str "other"), .val (.int ((o : Nat) : Int)), .val (.int (A (least sp gs) i)), .val (.int (A (most sp gs) i)), .own (.list []), .val (.int (A (least sp gs) i)), .no] from rfl, Option.bind_some]
      rw [seq_nx (sAsg_of (ev_fixed (y := A (least sp gs) i) f7 hi rfl rfl rfl) rfl)]
      simp only [runM, runS, env0, flD, cal, sSeq, sIf, sRet, sRetN, sDrop, sAsg, sOwn, sFrz, frz, sPar, sPar3, sParF, sParF3, mkSl, sNx, sNo, sBk, sCt, sApp, sExt, sSetIx, sAug, sFor, sWhile, m1, m2, mC, mVar, mLook, mAnd, mOr, mNot, mIte, mB, mV, mTru, dTru, mAndV, mOrV, mNotV, mNil, mCons, mTup, mLst, mF, mFS, mItems, mRng, mRng1, mRng2, mRng3, dRng1, dRng2, dRng3, mEnum, mZip, mEnumA, mZipA, mCut, mNoP, mPt, mRev, mNeg, dNeg, dRev, dCut, mLc, mYes, pName, pTup, pTupL, pNil, pCons, wipeS, dAdd, dSub, dMul, dDiv, dMod, dMulI, dAddI, dCmp, dIsN, dNotN, isNone, dLenX, dLen, seqOf, dAbs, dMax2, dMin2, dInt, dTuple, dList, dCatL, dRepL, mSt, mStLen, mStCell, sSt, sSt3, drwGet, drwSet, mCh2, mCh3, mCount, dCount, Option.bind_some, Option.map_some, Option.bind_none, Option.map_none, List.getElem?_cons_zero, List.getElem?_cons_succ, List.set_cons_zero, List.set_cons_succ, List.map_cons, List.map_nil, List.cons_append, List.nil_append, List.replicate_succ, List.replicate_zero, List.length_cons, List.length_nil, if_true, if_false, reduceIte, Bool.false_eq_true, Bool.not_true, Bool.not_false, decide_true, decide_false, Nat.zero_add, Nat.reduceAdd, j1, ix_tup2_1, x1, if_pos l1]
      rw [forGo_cons, show pName 9 (.int (A (most sp gs) i)) [Sl.val (SD sp), .val (GD gs), .val (.int ((i : Nat) : Int)), .val (.int ((o : Nat) : Int)), .val (.str "other"), .val (.int ((o : Nat) : Int)), .val (.int (A (least sp gs) i)), .val (.int (A (most sp gs) i)), .own (.list [.int (A (least (fixd sp i (A (least sp gs) i)) gs) o - A (least sp gs) i)]), .val (.int (A (least sp gs) i)), .val (SD (fixd sp i (A (least sp gs) i)))] = some [.val (SD sp), .val (GD gs), .val (.int ((i : Nat) : Int)), .val (.int ((o : Nat) : Int)), .val (.str "other"), .val (.int ((o : Nat) : Int)), .val (.int (A (least sp gs) i)), .val (.int (A (most sp gs) i)), .own (.list [.int (A (least (fixd sp i (A (least sp gs) i)) gs) o - A (least sp gs) i)]), .val (.int (A (most sp gs) i)), .val (SD (fixd sp i (A (least sp gs) i)))] from rfl, Option.bind_some]
      rw [seq_nx (sAsg_of (ev_fixed (y := A (most sp gs) i) f7 hi rfl rfl rfl) rfl)]
      simp only [runM, runS, env0, flD, cal, sSeq, sIf, sRet, sRetN, sDrop, sAsg, sOwn, sFrz, frz, sPar, sPar3, sParF, sParF3, mkSl, sNx, sNo, sBk, sCt, sApp, sExt, sSetIx, sAug, sFor, sWhile, m1, m2, mC, mVar, mLook, mAnd, mOr, mNot, mIte, mB, mV, mTru, dTru, mAndV, mOrV, mNotV, mNil, mCons, mTup, mLst, mF, mFS, mItems, mRng, mRng1, mRng2, mRng3, dRng1, dRng2, dRng3, mEnum, mZip, mEnumA, mZipA, mCut, mNoP, mPt, mRev, mNeg, dNeg, dRev, dCut, mLc, mYes, pName, pTup, pTupL, pNil, pCons, wipeS, dAdd, dSub, dMul, dDiv, dMod, dMulI, dAddI, dCmp, dIsN, dNotN, isNone, dLenX, dLen, seqOf, dAbs, dMax2, dMin2, dInt, dTuple, dList, dCatL, dRepL, mSt, mStLen, mStCell, sSt, sSt3, drwGet, drwSet, mCh2, mCh3, mCount, dCount, Option.bind_some, Option.map_some, Option.bind_none, Option.map_none, List.getElem?_cons_zero, List.getElem?_cons_succ, List.set_cons_zero, List.set_cons_succ, List.map_cons, List.map_nil, List.cons_append, List.nil_append, List.replicate_succ, List.replicate_zero, List.length_cons, List.length_nil, if_true, if_false, reduceIte, Bool.false_eq_true, Bool.not_true, Bool.not_false, decide_true, decide_false, Nat.zero_add, Nat.reduceAdd, j2, ix_tup2_1, x2, if_pos lt]
      rfl))]
  have mn := min_is (xs := [A (least (fixd sp i (A (least sp gs) i)) gs) o - A (least sp gs) i, lgap sp gs i o]) (l := lgap sp gs i o) (fun y hy => by
    rcases List.mem_cons.mp hy with e | e
    · rw [e]; exact lgap_first h hx hi ho
    · rw [List.mem_singleton.mp e]; exact Int.le_refl _) (by simp)
  rw [sRet_of (mF1_of (d := .list [.int (A (least (fixd sp i (A (least sp gs) i)) gs) o - A (least sp gs) i), .int (lgap sp gs i o)]) (w1 := w0) rfl mn)]
  exact ⟨_, _, rfl⟩
theorem eqv_sps : ∀ (a b : List Span), PyData.eqvAll (a.map sD) (b.map sD) = decide (a = b)
  | [], [] => by simp [PyData.eqvAll]
  | [], _ :: _ => by simp [PyData.eqvAll]
  | _ :: _, [] => by simp [PyData.eqvAll]
  | x :: a, y :: b => by
    have e := eqv_tup [x.1, x.2] [y.1, y.2]
    have e2 : PyData.eqv (sD x) (sD y) = decide (x = y) := by
      show PyData.eqv (.tuple ([x.1, x.2].map .int)) (.tuple ([y.1, y.2].map .int)) = _
      rw [e]
      obtain ⟨x1, x2⟩ := x
      obtain ⟨y1, y2⟩ := y
      simp
    simp only [List.map_cons, PyData.eqvAll, e2, eqv_sps a b, List.cons.injEq]
    by_cases h : x = y <;> simp [h]
theorem shp_SD (bl : List Span) : shp 8 (SD bl) = true := by
  show (bl.map sD).all (shp 7) = true
  rw [List.all_map]
  exact List.all_eq_true.mpr fun _ _ => rfl
theorem eq_SD (a b : List Span) : dEq (SD a) (SD b) = some (.bool (decide (a = b))) := by
  unfold dEq
  rw [if_pos ⟨shp_SD a, shp_SD b⟩]
  show some (PyData.bool (PyData.eqvAll (a.map sD) (b.map sD))) = _
  rw [eqv_sps]
theorem ne_SD (a b : List Span) : dNe (SD a) (SD b) = some (.bool (!decide (a = b))) := by
  unfold dNe
  rw [if_pos ⟨shp_SD a, shp_SD b⟩]
  show some (PyData.bool (!PyData.eqvAll (a.map sD) (b.map sD))) = _
  rw [eqv_sps]
theorem ev_remg {gs : List Gap} {k j : Nat} {S : SEnv} {n : Nat} (hl : gs.length ≤ 20) (hk : k < gs.length) (h1 : S[n]? = some (.val (GD gs))) (h2 : S[j]? = some (.val (.int ((k : Nat) : Int)))) {w : Drw} :
    (m2 dAdd (mCut (mLook n) mNoP (mPt (mVar j))) (mCut (mLook n) (mPt (m2 dAdd (mLook j) (mC (.int 1)))) mNoP)) S w = some (GD (remg gs k), w) := by
  have c1 : Mini.cutD (gs.map gD) none (some ((k : Nat) : Int)) = (gs.take k).map gD := by rw [cutD_take (by simp; omega), List.map_take]
  have e1 : ((k : Nat) : Int) + 1 = ((k + 1 : Nat) : Int) := by omega
  have c2 : Mini.cutD (gs.map gD) (some (((k : Nat) : Int) + 1)) none = (gs.drop (k + 1)).map gD := by rw [e1, cutD_drop (by simp; omega), List.map_drop]
  have a2 : dAdd (.tuple ((gs.take k).map gD)) (.tuple ((gs.drop (k + 1)).map gD)) = some (GD (remg gs k)) := by
    rw [dAdd_tup (by simp; omega), ← List.map_append]; rfl
  refine m2_of (d := .tuple ((gs.take k).map gD)) (w1 := w) ?_ (d2 := .tuple ((gs.drop (k + 1)).map gD)) (w2 := w) ?_ a2
  · simp only [runM, runS, env0, flD, cal, sSeq, sIf, sRet, sRetN, sDrop, sAsg, sOwn, sFrz, frz, sPar, sPar3, sParF, sParF3, mkSl, sNx, sNo, sBk, sCt, sApp, sExt, sSetIx, sAug, sFor, sWhile, m1, m2, mC, mVar, mLook, mAnd, mOr, mNot, mIte, mB, mV, mTru, dTru, mAndV, mOrV, mNotV, mNil, mCons, mTup, mLst, mF, mFS, mItems, mRng, mRng1, mRng2, mRng3, dRng1, dRng2, dRng3, mEnum, mZip, mEnumA, mZipA, mCut, mNoP, mPt, mRev, mNeg, dNeg, dRev, dCut, mLc, mYes, pName, pTup, pTupL, pNil, pCons, wipeS, dAdd, dSub, dMul, dDiv, dMod, dMulI, dAddI, dCmp, dIsN, dNotN, isNone, dLenX, dLen, seqOf, dAbs, dMax2, dMin2, dInt, dTuple, dList, dCatL, dRepL, mSt, mStLen, mStCell, sSt, sSt3, drwGet, drwSet, mCh2, mCh3, mCount, dCount, Option.bind_some, Option.map_some, Option.bind_none, Option.map_none, List.getElem?_cons_zero, List.getElem?_cons_succ, List.set_cons_zero, List.set_cons_succ, List.map_cons, List.map_nil, List.cons_append, List.nil_append, List.replicate_succ, List.replicate_zero, List.length_cons, List.length_nil, if_true, if_false, reduceIte, Bool.false_eq_true, Bool.not_true, Bool.not_false, decide_true, decide_false, h1, h2, GD, c1]
  · simp only [runM, runS, env0, flD, cal, sSeq, sIf, sRet, sRetN, sDrop, sAsg, sOwn, sFrz, frz, sPar, sPar3, sParF, sParF3, mkSl, sNx, sNo, sBk, sCt, sApp, sExt, sSetIx, sAug, sFor, sWhile, m1, m2, mC, mVar, mLook, mAnd, mOr, mNot, mIte, mB, mV, mTru, dTru, mAndV, mOrV, mNotV, mNil, mCons, mTup, mLst, mF, mFS, mItems, mRng, mRng1, mRng2, mRng3, dRng1, dRng2, dRng3, mEnum, mZip, mEnumA, mZipA, mCut, mNoP, mPt, mRev, mNeg, dNeg, dRev, dCut, mLc, mYes, pName, pTup, pTupL, pNil, pCons, wipeS, dAdd, dSub, dMul, dDiv, dMod, dMulI, dAddI, dCmp, dIsN, dNotN, isNone, dLenX, dLen, seqOf, dAbs, dMax2, dMin2, dInt, dTuple, dList, dCatL, dRepL, mSt, mStLen, mStCell, sSt, sSt3, drwGet, drwSet, mCh2, mCh3, mCount, dCount, Option.bind_some, Option.map_some, Option.bind_none, Option.map_none, List.getElem?_cons_zero, List.getElem?_cons_succ, List.set_cons_zero, List.set_cons_succ, List.map_cons, List.map_nil, List.cons_append, List.nil_append, List.replicate_succ, List.replicate_zero, List.length_cons, List.length_nil, if_true, if_false, reduceIte, Bool.false_eq_true, Bool.not_true, Bool.not_false, decide_true, decide_false, h1, h2, GD, c2]
theorem needl_len (sp : List Span) (gs : List Gap) : (needl sp gs).length ≤ gs.length := by
  have := List.length_filter_le (fun k => decide (bnds sp (remg gs k) = bnds sp gs)) (List.range gs.length)
  rwa [List.length_range] at this
theorem ev_needless {sp : List Span} {gs : List Gap} (h : Sys sp gs) {x : List Int} (hx : Sol sp gs x) : G_needless_gaps [SD sp, GD gs] = some (.tuple (nD (needl sp gs))) := by
  have gf := h.gfew
  have bo := ev_bounds h hx
  have sm := smallI_of (i := ((gs.length : Nat) : Int)) (by omega) (by omega)
  have lc := lc_asF (p := pName 3) (t := (mB (m2 dEq (mF (cal 2 G_bounds_of) (mCons (mVar 0) (mCons (m2 dAdd (mCut (mLook 1) mNoP (mPt (mVar 3))) (mCut (mLook 1) (mPt (m2 dAdd (mLook 3) (mC (.int 1)))) mNoP)) mNil))) (mLook 2)))) (e := mVar 3) (S := [.val (SD sp), .val (GD gs), .val (SD (bnds sp gs)), .no]) (w := w0)
    (g := fun k : Nat => .int ((k : Nat) : Int)) (f := fun k : Nat => .int ((k : Nat) : Int)) (c := fun k => decide (bnds sp (remg gs k) = bnds sp gs)) (ks := List.range gs.length) fun k hk => by
      have hk := List.mem_range.mp hk
      have b2 := ev_bounds (h.rem k) (hx.rem k)
      exact ⟨[.val (SD sp), .val (GD gs), .val (SD (bnds sp gs)), .val (.int ((k : Nat) : Int))], rfl, mB_of (m2_of (mF2_of (d := SD sp) (w1 := w0) rfl (ev_remg gf hk rfl rfl) (by show (if 2 = 2 then _ else _) = _; rw [if_pos rfl]; exact b2)) (d2 := SD (bnds sp gs)) (w2 := w0) rfl (eq_SD _ _)), fun _ => rfl⟩
  rw [← rngD_0] at lc
  unfold G_needless_gaps
  refine runM_rt [.val (SD sp), .val (GD gs), .no, .no] rfl ?_
  unfold m_needless_gaps
  rw [seq_nx (S1 := [.val (SD sp), .val (GD gs), .val (SD (bnds sp gs)), .no]) (w1 := w0) (by simp only [runM, runS, env0, flD, cal, sSeq, sIf, sRet, sRetN, sDrop, sAsg, sOwn, sFrz, frz, sPar, sPar3, sParF, sParF3, mkSl, sNx, sNo, sBk, sCt, sApp, sExt, sSetIx, sAug, sFor, sWhile, m1, m2, mC, mVar, mLook, mAnd, mOr, mNot, mIte, mB, mV, mTru, dTru, mAndV, mOrV, mNotV, mNil, mCons, mTup, mLst, mF, mFS, mItems, mRng, mRng1, mRng2, mRng3, dRng1, dRng2, dRng3, mEnum, mZip, mEnumA, mZipA, mCut, mNoP, mPt, mRev, mNeg, dNeg, dRev, dCut, mLc, mYes, pName, pTup, pTupL, pNil, pCons, wipeS, dAdd, dSub, dMul, dDiv, dMod, dMulI, dAddI, dCmp, dIsN, dNotN, isNone, dLenX, dLen, seqOf, dAbs, dMax2, dMin2, dInt, dTuple, dList, dCatL, dRepL, mSt, mStLen, mStCell, sSt, sSt3, drwGet, drwSet, mCh2, mCh3, mCount, dCount, Option.bind_some, Option.map_some, Option.bind_none, Option.map_none, List.getElem?_cons_zero, List.getElem?_cons_succ, List.set_cons_zero, List.set_cons_succ, List.map_cons, List.map_nil, List.cons_append, List.nil_append, List.replicate_succ, List.replicate_zero, List.length_cons, List.length_nil, if_true, if_false, reduceIte, Bool.false_eq_true, Bool.not_true, Bool.not_false, decide_true, decide_false, Nat.zero_add, Nat.reduceAdd, bo])]
  rw [sRet_of (mF1_of (g := dTuple) (mLc_of (vs := [3]) (mi := mRng1 (mCons (mF dLenX (mCons (mLook 1) mNil)) mNil)) (S := [.val (SD sp), .val (GD gs), .val (SD (bnds sp gs)), .no]) (w := w0) (w1 := w0) (by simp only [runM, runS, env0, flD, cal, sSeq, sIf, sRet, sRetN, sDrop, sAsg, sOwn, sFrz, frz, sPar, sPar3, sParF, sParF3, mkSl, sNx, sNo, sBk, sCt, sApp, sExt, sSetIx, sAug, sFor, sWhile, m1, m2, mC, mVar, mLook, mAnd, mOr, mNot, mIte, mB, mV, mTru, dTru, mAndV, mOrV, mNotV, mNil, mCons, mTup, mLst, mF, mFS, mItems, mRng, mRng1, mRng2, mRng3, dRng1, dRng2, dRng3, mEnum, mZip, mEnumA, mZipA, mCut, mNoP, mPt, mRev, mNeg, dNeg, dRev, dCut, mLc, mYes, pName, pTup, pTupL, pNil, pCons, wipeS, dAdd, dSub, dMul, dDiv, dMod, dMulI, dAddI, dCmp, dIsN, dNotN, isNone, dLenX, dLen, seqOf, dAbs, dMax2, dMin2, dInt, dTuple, dList, dCatL, dRepL, mSt, mStLen, mStCell, sSt, sSt3, drwGet, drwSet, mCh2, mCh3, mCount, dCount, Option.bind_some, Option.map_some, Option.bind_none, Option.map_none, List.getElem?_cons_zero, List.getElem?_cons_succ, List.set_cons_zero, List.set_cons_succ, List.map_cons, List.map_nil, List.cons_append, List.nil_append, List.replicate_succ, List.replicate_zero, List.length_cons, List.length_nil, if_true, if_false, reduceIte, Bool.false_eq_true, Bool.not_true, Bool.not_false, decide_true, decide_false, GD, List.length_map, if_pos sm, Int.toNat_natCast]) lc (by
    have := needl_len sp gs
    rw [List.length_map]
    exact lb_of (by unfold needl at this; omega))) rfl)]
  exact ⟨_, _, rfl⟩
end K64

set_option Elab.async false
set_option linter.all false
set_option maxRecDepth 100000
set_option maxHeartbeats 4000000
set_option exponentiation.threshold 10000
namespace K64
open PySem PySem.Spec PyProof.Rows L2 Mini
theorem mLst0 (S : SEnv) (w : Drw) : mLst mNil S w = some (.list [], w) := by
  have l0 : (0 : Nat) ≤ LB := by decide
  simp only [runM, runS, env0, flD, cal, sSeq, sIf, sRet, sRetN, sDrop, sAsg, sOwn, sFrz, frz, sPar, sPar3, sParF, sParF3, mkSl, sNx, sNo, sBk, sCt, sApp, sExt, sSetIx, sAug, sFor, sWhile, m1, m2, mC, mVar, mLook, mAnd, mOr, mNot, mIte, mB, mV, mTru, dTru, mAndV, mOrV, mNotV, mNil, mCons, mTup, mLst, mF, mFS, mItems, mRng, mRng1, mRng2, mRng3, dRng1, dRng2, dRng3, mEnum, mZip, mEnumA, mZipA, mCut, mNoP, mPt, mRev, mNeg, dNeg, dRev, dCut, mLc, mYes, pName, pTup, pTupL, pNil, pCons, wipeS, dAdd, dSub, dMul, dDiv, dMod, dMulI, dAddI, dCmp, dIsN, dNotN, isNone, dLenX, dLen, seqOf, dAbs, dMax2, dMin2, dInt, dTuple, dList, dCatL, dRepL, mSt, mStLen, mStCell, sSt, sSt3, drwGet, drwSet, mCh2, mCh3, mCount, dCount, Option.bind_some, Option.map_some, Option.bind_none, Option.map_none, List.getElem?_cons_zero, List.getElem?_cons_succ, List.set_cons_zero, List.set_cons_succ, List.map_cons, List.map_nil, List.cons_append, List.nil_append, List.replicate_succ, List.replicate_zero, List.length_cons, List.length_nil, if_true, if_false, reduceIte, Bool.false_eq_true, Bool.not_true, Bool.not_false, decide_true, decide_false, if_pos l0]
theorem ev_draw {w : Drw} {n : Nat} (h : w.In n) (hn : n < 2 ^ 60) (many : Nat) (h1 : 0 < many) (h2 : many ≤ 1000000) : ∃ (r : Nat) (w' : Drw), G_L_draw [.int (many : Nat)] w = some (.int (r : Nat), w') ∧ r < many ∧ w'.In (n + 1) := by
  obtain ⟨r, w', e, r0, r1, hw⟩ := draw_ok h (by omega) (many := many) (by omega) (by omega)
  obtain ⟨k, rfl⟩ := Int.eq_ofNat_of_zero_le r0
  exact ⟨k, w', e, by omega, hw⟩
theorem mFS_of {G : List PyData → Drw → Option (PyData × Drw)} {a : ME} {S : SEnv} {w w1 w2 : Drw} {d e : PyData} {i : Nat} (hS : S[i]? = some .stt) (h : a S w = some (d, w1)) (hg : G [d] w1 = some (e, w2)) : mFS i 1 G (mCons a mNil) S w = some (e, w2) := by
  have l1 : ([d] : List PyData).length = 1 := rfl
  unfold mFS
  rw [hS]
  simp only [mCons, mNil, h, Option.bind_some, Option.map_some, if_pos l1]
  exact hg
theorem ev_pick {rows : List (List Int)} {w : Drw} {n : Nat} (h : w.In n) (hn : n < 2 ^ 60) (hr : rows ≠ []) (hl : rows.length ≤ 100000) : ∃ (x : List Int) (w' : Drw), G_L_pick [RD rows] w = some (rowD x, w') ∧ x ∈ rows ∧ w'.In (n + 1) := by
  obtain ⟨r, w', e, h1, h2⟩ := ev_draw h hn rows.length (List.length_pos_iff.mpr hr) (by omega)
  refine ⟨rows[r], w', ?_, List.getElem_mem h1, h2⟩
  have ix : dIx (RD rows) (.int ((r : Nat) : Int)) = some (rowD rows[r]) := by
    unfold RD
    rw [ix_nat (by rw [List.length_map]; exact h1), List.getElem_map]
  unfold G_L_pick
  refine runS_rt [.stt, .val (RD rows)] rfl ?_
  unfold m_L_pick
  rw [sRet_of (m2_of (d := RD rows) (w1 := w) rfl (mFS_of (d := .int ((rows.length : Nat) : Int)) rfl (mF1_of (d := RD rows) (w1 := w) rfl (by simp only [dLenX, dLen, RD, seqOf, List.length_map, Option.map_some])) e) ix)]
  exact ⟨_, rfl⟩
/-! ### _law_order -/
theorem cut_nD_take {xs : List Nat} {a : Nat} (h : a ≤ xs.length) : Mini.cutD (nD xs) none (some ((a : Nat) : Int)) = nD (xs.take a) := by
  rw [cutD_take (by rw [nD_len]; exact h)]; unfold nD; rw [List.map_take]
theorem cut_nD_drop {xs : List Nat} {a : Nat} (h : a + 1 ≤ xs.length) : Mini.cutD (nD xs) (some (((a : Nat) : Int) + 1)) none = nD (xs.drop (a + 1)) := by
  rw [show ((a : Nat) : Int) + 1 = ((a + 1 : Nat) : Int) from by omega, cutD_drop (by rw [nD_len]; exact h)]; unfold nD; rw [List.map_drop]
theorem order_loop : ∀ (q : Nat) (lo : Int) (rows found : List Nat) (x3 x4 : Sl) (w : Drw) (n : Nat), rows.length = q → q ≤ 100 → found.length + q ≤ 1000 → w.In n → n + q < 2 ^ 60 → ∃ (found' : List Nat) (y3 y4 : Sl) (w' : Drw),
    forGo (pName 3) (sSeq (sAsg (mFS 0 1 G_L_draw (mCons (mF dLenX (mCons (mLook 1) mNil)) mNil)) (pName 4)) (sSeq (sApp 2 (m2 dIx (mLook 1) (mLook 4))) (sAsg (m2 dAdd (mCut (mLook 1) mNoP (mPt (mVar 4))) (mCut (mLook 1) (mPt (m2 dAdd (mLook 4) (mC (.int 1)))) mNoP)) (pName 1)))) (rngD lo 1 q)
      [.stt, .val (.list (nD rows)), .own (.list (nD found)), x3, x4] w = some (.nx, [.stt, .val (.list []), .own (.list (nD found')), y3, y4], w') ∧ found'.Perm (found ++ rows) ∧ w'.In (n + q)
  | 0, lo, rows, found, x3, x4, w, n, hr, _, _, hw, _ => by
    have : rows = [] := List.length_eq_zero_iff.mp hr
    subst this
    exact ⟨found, x3, x4, w, rfl, by rw [List.append_nil], hw⟩
  | q + 1, lo, rows, found, x3, x4, w, n, hr, hq, hf, hw, hn => by
    obtain ⟨a, w1, e1, ha, i1⟩ := ev_draw hw (by omega) rows.length (by omega) (by omega)
    have hspl : rows = rows.take a ++ rows[a] :: rows.drop (a + 1) := by
      rw [← List.drop_eq_getElem_cons ha, List.take_append_drop]
    obtain ⟨found', y3, y4, w2, e2, p2, i2⟩ := order_loop q (lo + 1) (rows.take a ++ rows.drop (a + 1)) (found ++ [rows[a]]) (.val (.int lo)) (.val (.int ((a : Nat) : Int))) w1 (n + 1) (by simp; omega) (by omega) (by simp; omega) i1 (by omega)
    refine ⟨found', y3, y4, w2, ?_, ?_, by rw [show n + (q + 1) = n + 1 + q from by omega]; exact i2⟩
    · have ix : dIx (.list (nD rows)) (.int ((a : Nat) : Int)) = some (.int ((rows[a] : Nat) : Int)) := by
        rw [ix_nat (by rw [nD_len]; exact ha)]
        simp [nD]
      have c1 := cut_nD_take (xs := rows) (a := a) (by omega)
      have c2 := cut_nD_drop (xs := rows) (a := a) (by omega)
      have l1 : (nD found).length + 1 ≤ LB := by rw [nD_len]; exact lb_of (by omega)
      have l2 : (nD (rows.take a)).length + (nD (rows.drop (a + 1))).length ≤ LB := by rw [nD_len, nD_len]; exact lb_of (by simp; omega)
      have ap1 : nD found ++ [.int ((rows[a] : Nat) : Int)] = nD (found ++ [rows[a]]) := by simp [nD]
      have ap2 : nD (rows.take a) ++ nD (rows.drop (a + 1)) = nD (rows.take a ++ rows.drop (a + 1)) := by simp [nD]
      rw [rngD_succ, forGo_cons, show pName 3 (.int lo) [Sl.stt, .val (.list (nD rows)), .own (.list (nD found)), x3, x4] = some [.stt, .val (.list (nD rows)), .own (.list (nD found)), .val (.int lo), x4] from rfl, Option.bind_some]
      rw [seq_nx (sAsg_of (mFS_of (d := .int ((rows.length : Nat) : Int)) (w1 := w) rfl (by simp only [runM, runS, env0, flD, cal, sSeq, sIf, sRet, sRetN, sDrop, sAsg, sOwn, sFrz, frz, sPar, sPar3, sParF, sParF3, mkSl, sNx, sNo, sBk, sCt, sApp, sExt, sSetIx, sAug, sFor, sWhile, m1, m2, mC, mVar, mLook, mAnd, mOr, mNot, mIte, mB, mV, mTru, dTru, mAndV, mOrV, mNotV, mNil, mCons, mTup, mLst, mF, mFS, mItems, mRng, mRng1, mRng2, mRng3, dRng1, dRng2, dRng3, mEnum, mZip, mEnumA, mZipA, mCut, mNoP, mPt, mRev, mNeg, dNeg, dRev, dCut, mLc, mYes, pName, pTup, pTupL, pNil, pCons, wipeS, dAdd, dSub, dMul, dDiv, dMod, dMulI, dAddI, dCmp, dIsN, dNotN, isNone, dLenX, dLen, seqOf, dAbs, dMax2, dMin2, dInt, dTuple, dList, dCatL, dRepL, mSt, mStLen, mStCell, sSt, sSt3, drwGet, drwSet, mCh2, mCh3, mCount, dCount, Option.bind_some, Option.map_some, Option.bind_none, Option.map_none, List.getElem?_cons_zero, List.getElem?_cons_succ, List.set_cons_zero, List.set_cons_succ, List.map_cons, List.map_nil, List.cons_append, List.nil_append, List.replicate_succ, List.replicate_zero, List.length_cons, List.length_nil, if_true, if_false, reduceIte, Bool.false_eq_true, Bool.not_true, Bool.not_false, decide_true, decide_false, nD_len]) e1) rfl)]
      rw [seq_nx (S1 := [.stt, .val (.list (nD rows)), .own (.list (nD (found ++ [rows[a]]))), .val (.int lo), .val (.int ((a : Nat) : Int))]) (w1 := w1) (by simp only [runM, runS, env0, flD, cal, sSeq, sIf, sRet, sRetN, sDrop, sAsg, sOwn, sFrz, frz, sPar, sPar3, sParF, sParF3, mkSl, sNx, sNo, sBk, sCt, sApp, sExt, sSetIx, sAug, sFor, sWhile, m1, m2, mC, mVar, mLook, mAnd, mOr, mNot, mIte, mB, mV, mTru, dTru, mAndV, mOrV, mNotV, mNil, mCons, mTup, mLst, mF, mFS, mItems, mRng, mRng1, mRng2, mRng3, dRng1, dRng2, dRng3, mEnum, mZip, mEnumA, mZipA, mCut, mNoP, mPt, mRev, mNeg, dNeg, dRev, dCut, mLc, mYes, pName, pTup, pTupL, pNil, pCons, wipeS, dAdd, dSub, dMul, dDiv, dMod, dMulI, dAddI, dCmp, dIsN, dNotN, isNone, dLenX, dLen, seqOf, dAbs, dMax2, dMin2, dInt, dTuple, dList, dCatL, dRepL, mSt, mStLen, mStCell, sSt, sSt3, drwGet, drwSet, mCh2, mCh3, mCount, dCount, Option.bind_some, Option.map_some, Option.bind_none, Option.map_none, List.getElem?_cons_zero, List.getElem?_cons_succ, List.set_cons_zero, List.set_cons_succ, List.map_cons, List.map_nil, List.cons_append, List.nil_append, List.replicate_succ, List.replicate_zero, List.length_cons, List.length_nil, if_true, if_false, reduceIte, Bool.false_eq_true, Bool.not_true, Bool.not_false, decide_true, decide_false, ix, if_pos l1, ap1])]
      simp only [runM, runS, env0, flD, cal, sSeq, sIf, sRet, sRetN, sDrop, sAsg, sOwn, sFrz, frz, sPar, sPar3, sParF, sParF3, mkSl, sNx, sNo, sBk, sCt, sApp, sExt, sSetIx, sAug, sFor, sWhile, m1, m2, mC, mVar, mLook, mAnd, mOr, mNot, mIte, mB, mV, mTru, dTru, mAndV, mOrV, mNotV, mNil, mCons, mTup, mLst, mF, mFS, mItems, mRng, mRng1, mRng2, mRng3, dRng1, dRng2, dRng3, mEnum, mZip, mEnumA, mZipA, mCut, mNoP, mPt, mRev, mNeg, dNeg, dRev, dCut, mLc, mYes, pName, pTup, pTupL, pNil, pCons, wipeS, dAdd, dSub, dMul, dDiv, dMod, dMulI, dAddI, dCmp, dIsN, dNotN, isNone, dLenX, dLen, seqOf, dAbs, dMax2, dMin2, dInt, dTuple, dList, dCatL, dRepL, mSt, mStLen, mStCell, sSt, sSt3, drwGet, drwSet, mCh2, mCh3, mCount, dCount, Option.bind_some, Option.map_some, Option.bind_none, Option.map_none, List.getElem?_cons_zero, List.getElem?_cons_succ, List.set_cons_zero, List.set_cons_succ, List.map_cons, List.map_nil, List.cons_append, List.nil_append, List.replicate_succ, List.replicate_zero, List.length_cons, List.length_nil, if_true, if_false, reduceIte, Bool.false_eq_true, Bool.not_true, Bool.not_false, decide_true, decide_false, c1, c2, if_pos l2, ap2]
      exact e2
    · refine p2.trans ?_
      rw [List.append_assoc]
      refine List.Perm.append_left found ?_
      conv => rhs; rw [hspl]
      show (rows[a] :: (rows.take a ++ rows.drop (a + 1))).Perm _
      exact List.perm_middle.symm
theorem ev_order {xs : List Nat} {w : Drw} {n : Nat} (h : w.In n) (hx : xs.length ≤ 100) (hn : n + xs.length < 2 ^ 60) : ∃ (ys : List Nat) (w' : Drw), G_L_order [.list (nD xs)] w = some (.list (nD ys), w') ∧ ys.Perm xs ∧ w'.In (n + xs.length) := by
  obtain ⟨ys, y3, y4, w', e, p, i⟩ := order_loop xs.length 0 xs [] .no .no w n rfl hx (by simp; omega) h hn
  rw [List.nil_append] at p
  refine ⟨ys, w', ?_, p, i⟩
  unfold G_L_order
  refine runS_rt [.stt, .val (.list (nD xs)), .no, .no, .no] rfl ?_
  unfold m_L_order
  have l0 : (0 : Nat) ≤ LB := by decide
  rw [seq_nx (S1 := [.stt, .val (.list (nD xs)), .own (.list (nD [])), .no, .no]) (w1 := w) (by simp only [runM, runS, env0, flD, cal, sSeq, sIf, sRet, sRetN, sDrop, sAsg, sOwn, sFrz, frz, sPar, sPar3, sParF, sParF3, mkSl, sNx, sNo, sBk, sCt, sApp, sExt, sSetIx, sAug, sFor, sWhile, m1, m2, mC, mVar, mLook, mAnd, mOr, mNot, mIte, mB, mV, mTru, dTru, mAndV, mOrV, mNotV, mNil, mCons, mTup, mLst, mF, mFS, mItems, mRng, mRng1, mRng2, mRng3, dRng1, dRng2, dRng3, mEnum, mZip, mEnumA, mZipA, mCut, mNoP, mPt, mRev, mNeg, dNeg, dRev, dCut, mLc, mYes, pName, pTup, pTupL, pNil, pCons, wipeS, dAdd, dSub, dMul, dDiv, dMod, dMulI, dAddI, dCmp, dIsN, dNotN, isNone, dLenX, dLen, seqOf, dAbs, dMax2, dMin2, dInt, dTuple, dList, dCatL, dRepL, mSt, mStLen, mStCell, sSt, sSt3, drwGet, drwSet, mCh2, mCh3, mCount, dCount, Option.bind_some, Option.map_some, Option.bind_none, Option.map_none, List.getElem?_cons_zero, List.getElem?_cons_succ, List.set_cons_zero, List.set_cons_succ, List.map_cons, List.map_nil, List.cons_append, List.nil_append, List.replicate_succ, List.replicate_zero, List.length_cons, List.length_nil, if_true, if_false, reduceIte, Bool.false_eq_true, Bool.not_true, Bool.not_false, decide_true, decide_false, if_pos l0]; rfl)]
  have sm := smallI_of (i := ((xs.length : Nat) : Int)) (by omega) (by omega)
  rw [seq_nx (sFor_of (w1 := w) (ds := rngD 0 1 xs.length) (by simp only [runM, runS, env0, flD, cal, sSeq, sIf, sRet, sRetN, sDrop, sAsg, sOwn, sFrz, frz, sPar, sPar3, sParF, sParF3, mkSl, sNx, sNo, sBk, sCt, sApp, sExt, sSetIx, sAug, sFor, sWhile, m1, m2, mC, mVar, mLook, mAnd, mOr, mNot, mIte, mB, mV, mTru, dTru, mAndV, mOrV, mNotV, mNil, mCons, mTup, mLst, mF, mFS, mItems, mRng, mRng1, mRng2, mRng3, dRng1, dRng2, dRng3, mEnum, mZip, mEnumA, mZipA, mCut, mNoP, mPt, mRev, mNeg, dNeg, dRev, dCut, mLc, mYes, pName, pTup, pTupL, pNil, pCons, wipeS, dAdd, dSub, dMul, dDiv, dMod, dMulI, dAddI, dCmp, dIsN, dNotN, isNone, dLenX, dLen, seqOf, dAbs, dMax2, dMin2, dInt, dTuple, dList, dCatL, dRepL, mSt, mStLen, mStCell, sSt, sSt3, drwGet, drwSet, mCh2, mCh3, mCount, dCount, Option.bind_some, Option.map_some, Option.bind_none, Option.map_none, List.getElem?_cons_zero, List.getElem?_cons_succ, List.set_cons_zero, List.set_cons_succ, List.map_cons, List.map_nil, List.cons_append, List.nil_append, List.replicate_succ, List.replicate_zero, List.length_cons, List.length_nil, if_true, if_false, reduceIte, Bool.false_eq_true, Bool.not_true, Bool.not_false, decide_true, decide_false, nD_len, if_pos sm, Int.toNat_natCast]) e)]
  exact ⟨_, rfl⟩
/-! ### all years -/
def Ey (sp : List Span) (gs : List Gap) (rows : List (List Int)) (a b more row : Sl) : SEnv := [.val (SD sp), .val (GD gs), .val (RD rows), a, b, more, row, .no, .no, .no, .no]
theorem ext_loop {sp : List Span} {gs : List Gap} {rows0 : List (List Int)} {s : Span} (h1 : -1000 ≤ s.1) (h2 : s.1 ≤ s.2) (h3 : s.2 ≤ 1000) (h4 : s.2 - s.1 ≤ 6) : ∀ (rows acc : List (List Int)) (x6 : Sl), (∀ r ∈ rows, r.length ≤ 100) → acc.length + rows.length * 7 ≤ 100000 → ∃ y6,
    forGo (pName 6) (sExt 5 (mLc (mRng2 (mCons (mVar 3) (mCons (m2 dAdd (mLook 4) (mC (.int 1))) mNil))) (pName 7) mYes (m2 dAdd (mLook 6) (mTup (mCons (mVar 7) mNil))) [7])) (rows.map rowD)
      (Ey sp gs rows0 (.val (.int s.1)) (.val (.int s.2)) (.own (RD acc)) x6) w0 = some (.nx, Ey sp gs rows0 (.val (.int s.1)) (.val (.int s.2)) (.own (RD (acc ++ grown1 rows s))) y6, w0)
  | [], acc, x6, _, _ => ⟨x6, by simp [grown1, forGo]⟩
  | r :: rows, acc, x6, hr, hl => by
    have yl : (yrs s).length ≤ 7 := by rw [yrs_len]; omega
    have s1 := smallI_of (i := s.1) (by omega) (by omega)
    have s2 := smallI_of (i := s.2 + 1) (by omega) (by omega)
    obtain ⟨y6, ih⟩ := ext_loop (sp := sp) (gs := gs) (rows0 := rows0) h1 h2 h3 h4 rows (acc ++ (yrs s).map fun y => r ++ [y]) (.val (rowD r)) (fun x hx => hr x (List.mem_cons_of_mem _ hx)) (by simp at hl ⊢; omega)
    refine ⟨y6, ?_⟩
    have l1 : (1 : Nat) ≤ LB := by decide
    have lc := mLc_of (mi := mRng2 (mCons (mVar 3) (mCons (m2 dAdd (mLook 4) (mC (.int 1))) mNil))) (p := pName 7) (t := mYes) (e := m2 dAdd (mLook 6) (mTup (mCons (mVar 7) mNil))) (vs := [7]) (S := Ey sp gs rows0 (.val (.int s.1)) (.val (.int s.2)) (.own (RD acc)) (.val (rowD r))) (w := w0) (w1 := w0) (ds := (yrs s).map .int) (by
        simp only [runM, runS, env0, flD, cal, sSeq, sIf, sRet, sRetN, sDrop, sAsg, sOwn, sFrz, frz, sPar, sPar3, sParF, sParF3, mkSl, sNx, sNo, sBk, sCt, sApp, sExt, sSetIx, sAug, sFor, sWhile, m1, m2, mC, mVar, mLook, mAnd, mOr, mNot, mIte, mB, mV, mTru, dTru, mAndV, mOrV, mNotV, mNil, mCons, mTup, mLst, mF, mFS, mItems, mRng, mRng1, mRng2, mRng3, dRng1, dRng2, dRng3, mEnum, mZip, mEnumA, mZipA, mCut, mNoP, mPt, mRev, mNeg, dNeg, dRev, dCut, mLc, mYes, pName, pTup, pTupL, pNil, pCons, wipeS, dAdd, dSub, dMul, dDiv, dMod, dMulI, dAddI, dCmp, dIsN, dNotN, isNone, dLenX, dLen, seqOf, dAbs, dMax2, dMin2, dInt, dTuple, dList, dCatL, dRepL, mSt, mStLen, mStCell, sSt, sSt3, drwGet, drwSet, mCh2, mCh3, mCount, dCount, Option.bind_some, Option.map_some, Option.bind_none, Option.map_none, List.getElem?_cons_zero, List.getElem?_cons_succ, List.set_cons_zero, List.set_cons_succ, List.map_cons, List.map_nil, List.cons_append, List.nil_append, List.replicate_succ, List.replicate_zero, List.length_cons, List.length_nil, if_true, if_false, reduceIte, Bool.false_eq_true, Bool.not_true, Bool.not_false, decide_true, decide_false, Ey, s1, s2]
        rw [← yrs_rng]
        rfl) (lc_as (g := .int) (f := fun y => rowD (r ++ [y])) (ks := yrs s) fun y hy => ⟨[.val (SD sp), .val (GD gs), .val (RD rows0), .val (.int s.1), .val (.int s.2), .own (RD acc), .val (rowD r), .val (.int y), .no, .no, .no], rfl,
          m2_of (d := rowD r) rfl (d2 := .tuple [.int y]) (w2 := w0) (by simp only [runM, runS, env0, flD, cal, sSeq, sIf, sRet, sRetN, sDrop, sAsg, sOwn, sFrz, frz, sPar, sPar3, sParF, sParF3, mkSl, sNx, sNo, sBk, sCt, sApp, sExt, sSetIx, sAug, sFor, sWhile, m1, m2, mC, mVar, mLook, mAnd, mOr, mNot, mIte, mB, mV, mTru, dTru, mAndV, mOrV, mNotV, mNil, mCons, mTup, mLst, mF, mFS, mItems, mRng, mRng1, mRng2, mRng3, dRng1, dRng2, dRng3, mEnum, mZip, mEnumA, mZipA, mCut, mNoP, mPt, mRev, mNeg, dNeg, dRev, dCut, mLc, mYes, pName, pTup, pTupL, pNil, pCons, wipeS, dAdd, dSub, dMul, dDiv, dMod, dMulI, dAddI, dCmp, dIsN, dNotN, isNone, dLenX, dLen, seqOf, dAbs, dMax2, dMin2, dInt, dTuple, dList, dCatL, dRepL, mSt, mStLen, mStCell, sSt, sSt3, drwGet, drwSet, mCh2, mCh3, mCount, dCount, Option.bind_some, Option.map_some, Option.bind_none, Option.map_none, List.getElem?_cons_zero, List.getElem?_cons_succ, List.set_cons_zero, List.set_cons_succ, List.map_cons, List.map_nil, List.cons_append, List.nil_append, List.replicate_succ, List.replicate_zero, List.length_cons, List.length_nil, if_true, if_false, reduceIte, Bool.false_eq_true, Bool.not_true, Bool.not_false, decide_true, decide_false, Nat.zero_add, if_pos l1]) (dAdd_row r y (hr r List.mem_cons_self))⟩) (by rw [List.length_map]; exact lb_of (by omega))
    rw [List.map_cons, forGo_cons, show pName 6 (rowD r) (Ey sp gs rows0 (.val (.int s.1)) (.val (.int s.2)) (.own (RD acc)) x6) = some (Ey sp gs rows0 (.val (.int s.1)) (.val (.int s.2)) (.own (RD acc)) (.val (rowD r))) from rfl, Option.bind_some]
    have le : (acc.map rowD).length + ((yrs s).map fun y => rowD (r ++ [y])).length ≤ LB := by rw [List.length_map, List.length_map]; exact lb_of (by simp at hl; omega)
    have se : sExt 5 (mLc (mRng2 (mCons (mVar 3) (mCons (m2 dAdd (mLook 4) (mC (.int 1))) mNil))) (pName 7) mYes (m2 dAdd (mLook 6) (mTup (mCons (mVar 7) mNil))) [7]) (Ey sp gs rows0 (.val (.int s.1)) (.val (.int s.2)) (.own (RD acc)) (.val (rowD r))) w0 =
        some (.nx, Ey sp gs rows0 (.val (.int s.1)) (.val (.int s.2)) (.own (RD (acc ++ (yrs s).map fun y => r ++ [y]))) (.val (rowD r)), w0) := by
      unfold sExt
      show (mLc _ _ _ _ _ _ _).bind _ = _
      rw [lc, Option.bind_some]
      show (if (acc.map rowD).length + ((yrs s).map fun y => rowD (r ++ [y])).length ≤ LB then _ else _) = _
      rw [if_pos le]
      have : acc.map rowD ++ ((yrs s).map fun y => rowD (r ++ [y])) = (acc ++ (yrs s).map fun y => r ++ [y]).map rowD := by rw [List.map_append, List.map_map]; rfl
      rw [this]
      rfl
    rw [se, Option.bind_some]
    have eg : acc ++ grown1 (r :: rows) s = (acc ++ (yrs s).map fun y => r ++ [y]) ++ grown1 rows s := by unfold grown1; rw [List.flatMap_cons, List.append_assoc]
    rw [eg]
    exact ih
theorem allRows_len (bl : List Span) (h : ∀ s ∈ bl, s.1 ≤ s.2 ∧ s.2 - s.1 ≤ 6) : (allRows bl).length ≤ 7 ^ bl.length := by
  induction bl using snoc_ind with
  | h0 => show 1 ≤ 1; exact Nat.le_refl _
  | h1 bl s ih =>
    have ih' := ih fun z hz => h z (List.mem_append_left _ hz)
    have hs := h s (List.mem_append_right _ List.mem_cons_self)
    rw [allRows_snoc, grown1_len, List.length_append, List.length_singleton, Nat.pow_succ]
    exact Nat.mul_le_mul ih' (by omega)
theorem span_loop {sp : List Span} {gs : List Gap} (hb : ∀ s ∈ sp, -1000 ≤ s.1 ∧ s.1 ≤ s.2 ∧ s.2 ≤ 1000 ∧ s.2 - s.1 ≤ 6) (hl : sp.length ≤ 4) : ∀ (post pre : List Span) (x3 x4 x5 x6 : Sl), sp = pre ++ post → ∃ y3 y4 y5 y6,
    forGo (pTup (pCons (pName 3) (pCons (pName 4) pNil))) (sSeq (sOwn 5 (mLst mNil)) (sSeq (sFor (mItems (mVar 2)) (pName 6) (sExt 5 (mLc (mRng2 (mCons (mVar 3) (mCons (m2 dAdd (mLook 4) (mC (.int 1))) mNil))) (pName 7) mYes (m2 dAdd (mLook 6) (mTup (mCons (mVar 7) mNil))) [7]))) (sFrz 5 (sAsg (mVar 5) (pName 2))))) (post.map sD)
      (Ey sp gs (allRows pre) x3 x4 x5 x6) w0 = some (.nx, Ey sp gs (allRows sp) y3 y4 y5 y6, w0)
  | [], pre, x3, x4, x5, x6, e => by
    rw [List.append_nil] at e
    subst e
    exact ⟨x3, x4, x5, x6, rfl⟩
  | s :: post, pre, x3, x4, x5, x6, e => by
    obtain ⟨b1, b2, b3, b4⟩ := hb s (by rw [e]; simp)
    have hp : ∀ z ∈ pre, z.1 ≤ z.2 ∧ z.2 - z.1 ≤ 6 := fun z hz => by
      have := hb z (by rw [e]; simp [hz])
      omega
    have al := allRows_len pre hp
    have pl : pre.length ≤ 3 := by
      have := congrArg List.length e
      simp at this
      omega
    have p7 : 7 ^ pre.length ≤ 7 ^ 3 := Nat.pow_le_pow_right (by decide) pl
    obtain ⟨z6, e1⟩ := ext_loop (sp := sp) (gs := gs) (rows0 := allRows pre) b1 b2 b3 b4 (allRows pre) [] x6 (fun r hr => by
      have := (((allRows_ok pre).2 r).mp hr).1
      omega) (by simp; omega)
    obtain ⟨y3, y4, y5, y6, ih⟩ := span_loop (gs := gs) hb hl post (pre ++ [s]) (.val (.int s.1)) (.val (.int s.2)) (.val (RD (grown1 (allRows pre) s))) z6 (by rw [e]; simp)
    refine ⟨y3, y4, y5, y6, ?_⟩
    have l0 : (0 : Nat) ≤ LB := by decide
    rw [List.map_cons, forGo_cons, show pTup (pCons (pName 3) (pCons (pName 4) pNil)) (sD s) (Ey sp gs (allRows pre) x3 x4 x5 x6) = some (Ey sp gs (allRows pre) (.val (.int s.1)) (.val (.int s.2)) x5 x6) from rfl, Option.bind_some]
    rw [seq_nx (S1 := Ey sp gs (allRows pre) (.val (.int s.1)) (.val (.int s.2)) (.own (RD [])) x6) (w1 := w0) (by simp only [runM, runS, env0, flD, cal, sSeq, sIf, sRet, sRetN, sDrop, sAsg, sOwn, sFrz, frz, sPar, sPar3, sParF, sParF3, mkSl, sNx, sNo, sBk, sCt, sApp, sExt, sSetIx, sAug, sFor, sWhile, m1, m2, mC, mVar, mLook, mAnd, mOr, mNot, mIte, mB, mV, mTru, dTru, mAndV, mOrV, mNotV, mNil, mCons, mTup, mLst, mF, mFS, mItems, mRng, mRng1, mRng2, mRng3, dRng1, dRng2, dRng3, mEnum, mZip, mEnumA, mZipA, mCut, mNoP, mPt, mRev, mNeg, dNeg, dRev, dCut, mLc, mYes, pName, pTup, pTupL, pNil, pCons, wipeS, dAdd, dSub, dMul, dDiv, dMod, dMulI, dAddI, dCmp, dIsN, dNotN, isNone, dLenX, dLen, seqOf, dAbs, dMax2, dMin2, dInt, dTuple, dList, dCatL, dRepL, mSt, mStLen, mStCell, sSt, sSt3, drwGet, drwSet, mCh2, mCh3, mCount, dCount, Option.bind_some, Option.map_some, Option.bind_none, Option.map_none, List.getElem?_cons_zero, List.getElem?_cons_succ, List.set_cons_zero, List.set_cons_succ, List.map_cons, List.map_nil, List.cons_append, List.nil_append, List.replicate_succ, List.replicate_zero, List.length_cons, List.length_nil, if_true, if_false, reduceIte, Bool.false_eq_true, Bool.not_true, Bool.not_false, decide_true, decide_false, Ey, if_pos l0]; rfl)]
    rw [seq_nx (sFor_of (ds := (allRows pre).map rowD) (w1 := w0) (by simp only [runM, runS, env0, flD, cal, sSeq, sIf, sRet, sRetN, sDrop, sAsg, sOwn, sFrz, frz, sPar, sPar3, sParF, sParF3, mkSl, sNx, sNo, sBk, sCt, sApp, sExt, sSetIx, sAug, sFor, sWhile, m1, m2, mC, mVar, mLook, mAnd, mOr, mNot, mIte, mB, mV, mTru, dTru, mAndV, mOrV, mNotV, mNil, mCons, mTup, mLst, mF, mFS, mItems, mRng, mRng1, mRng2, mRng3, dRng1, dRng2, dRng3, mEnum, mZip, mEnumA, mZipA, mCut, mNoP, mPt, mRev, mNeg, dNeg, dRev, dCut, mLc, mYes, pName, pTup, pTupL, pNil, pCons, wipeS, dAdd, dSub, dMul, dDiv, dMod, dMulI, dAddI, dCmp, dIsN, dNotN, isNone, dLenX, dLen, seqOf, dAbs, dMax2, dMin2, dInt, dTuple, dList, dCatL, dRepL, mSt, mStLen, mStCell, sSt, sSt3, drwGet, drwSet, mCh2, mCh3, mCount, dCount, Option.bind_some, Option.map_some, Option.bind_none, Option.map_none, List.getElem?_cons_zero, List.getElem?_cons_succ, List.set_cons_zero, List.set_cons_succ, List.map_cons, List.map_nil, List.cons_append, List.nil_append, List.replicate_succ, List.replicate_zero, List.length_cons, List.length_nil, if_true, if_false, reduceIte, Bool.false_eq_true, Bool.not_true, Bool.not_false, decide_true, decide_false, Ey, RD]) e1), List.nil_append]
    rw [allRows_snoc] at ih
    exact ih
theorem suits_full {sp : List Span} {gs : List Gap} (h : Sys sp gs) {x : List Int} (hx : x.length = sp.length) : suitsB gs x = (gs.filter fun g => decide (A x g.2.1 - A x g.1 < g.2.2)).isEmpty := by
  have ok : ∀ g ∈ gs, decide (g.1 < x.length) = true ∧ decide (g.2.1 < x.length) = true := fun g hg => by
    obtain ⟨a, b, _⟩ := h.gap g hg
    exact ⟨decide_eq_true (by omega), decide_eq_true (by omega)⟩
  unfold suitsB
  have key : ∀ gs : List Gap, (∀ g ∈ gs, decide (g.1 < x.length) = true ∧ decide (g.2.1 < x.length) = true) → (gs.all fun g => !(decide (g.1 < x.length) && decide (g.2.1 < x.length) && decide (A x g.2.1 - A x g.1 < g.2.2))) = (gs.filter fun g => decide (A x g.2.1 - A x g.1 < g.2.2)).isEmpty := fun gs => by
    induction gs with
    | nil => intro _; rfl
    | cons g gs ih =>
      intro hh
      obtain ⟨a, b⟩ := hh g List.mem_cons_self
      rw [List.all_cons, a, b, ih fun z hz => hh z (List.mem_cons_of_mem _ hz)]
      by_cases c : A x g.2.1 - A x g.1 < g.2.2
      · simp [c]
      · simp [c]
  exact key gs ok
theorem eq_ones (gs : List Gap) : dEq (.list (gs.map fun _ => PyData.int 1)) (.list []) = some (.bool gs.isEmpty) := by
  unfold dEq
  have : shp 8 (.list (gs.map fun _ => PyData.int 1)) = true := by
    show (gs.map fun _ => PyData.int 1).all (shp 7) = true
    rw [List.all_map]
    exact List.all_eq_true.mpr fun _ _ => rfl
  rw [if_pos ⟨this, rfl⟩]
  cases gs <;> rfl
theorem ev_all_years {sp : List Span} {gs : List Gap} (h : Sys sp gs) (hl : sp.length ≤ 4) (hw : ∀ s ∈ sp, s.2 - s.1 ≤ 6) : G_L_all_years [SD sp, GD gs] = some (RD ((allRows sp).filter (suitsB gs))) := by
  obtain ⟨y3, y4, y5, y6, lp⟩ := span_loop (sp := sp) (gs := gs) (fun s hs => ⟨(h.span s hs).1, (h.span s hs).2.1, (h.span s hs).2.2, hw s hs⟩) hl sp [] .no .no .no .no rfl
  have al := allRows_len sp fun s hs => ⟨(h.span s hs).2.1, hw s hs⟩
  have p7 : 7 ^ sp.length ≤ 7 ^ 4 := Nat.pow_le_pow_right (by decide) hl
  have gf := h.gfew
  have l0 : (0 : Nat) ≤ LB := by decide
  have l1 : (1 : Nat) ≤ LB := by decide
  have lc := lc_asF (p := pName 7) (t := (mB (m2 dEq (mLc (mItems (mLook 1)) (pTup (pCons (pName 8) (pCons (pName 9) (pCons (pName 10) pNil)))) (mB (m2 dLt (m2 dSub (m2 dIx (mLook 7) (mLook 9)) (m2 dIx (mLook 7) (mLook 8))) (mLook 10))) (mC (.int 1)) [8, 9, 10]) (mLst mNil)))) (e := mVar 7) (S := Ey sp gs (allRows sp) y3 y4 y5 y6) (w := w0) (g := rowD) (f := rowD) (c := suitsB gs) (ks := allRows sp) fun x hx => by
    have xl : x.length = sp.length := (((allRows_ok sp).2 x).mp hx).1
    refine ⟨[.val (SD sp), .val (GD gs), .val (RD (allRows sp)), y3, y4, y5, y6, .val (rowD x), .no, .no, .no], rfl, ?_, fun _ => rfl⟩
    have inner := mLc_of (mi := mItems (mLook 1)) (p := pTup (pCons (pName 8) (pCons (pName 9) (pCons (pName 10) pNil)))) (t := mB (m2 dLt (m2 dSub (m2 dIx (mLook 7) (mLook 9)) (m2 dIx (mLook 7) (mLook 8))) (mLook 10))) (e := mC (.int 1)) (vs := [8, 9, 10]) (S := [.val (SD sp), .val (GD gs), .val (RD (allRows sp)), y3, y4, y5, y6, .val (rowD x), .no, .no, .no]) (w := w0) (w1 := w0) (ds := gs.map gD) (by simp only [runM, runS, env0, flD, cal, sSeq, sIf, sRet, sRetN, sDrop, sAsg, sOwn, sFrz, frz, sPar, sPar3, sParF, sParF3, mkSl, sNx, sNo, sBk, sCt, sApp, sExt, sSetIx, sAug, sFor, sWhile, m1, m2, mC, mVar, mLook, mAnd, mOr, mNot, mIte, mB, mV, mTru, dTru, mAndV, mOrV, mNotV, mNil, mCons, mTup, mLst, mF, mFS, mItems, mRng, mRng1, mRng2, mRng3, dRng1, dRng2, dRng3, mEnum, mZip, mEnumA, mZipA, mCut, mNoP, mPt, mRev, mNeg, dNeg, dRev, dCut, mLc, mYes, pName, pTup, pTupL, pNil, pCons, wipeS, dAdd, dSub, dMul, dDiv, dMod, dMulI, dAddI, dCmp, dIsN, dNotN, isNone, dLenX, dLen, seqOf, dAbs, dMax2, dMin2, dInt, dTuple, dList, dCatL, dRepL, mSt, mStLen, mStCell, sSt, sSt3, drwGet, drwSet, mCh2, mCh3, mCount, dCount, Option.bind_some, Option.map_some, Option.bind_none, Option.map_none, List.getElem?_cons_zero, List.getElem?_cons_succ, List.set_cons_zero, List.set_cons_succ, List.map_cons, List.map_nil, List.cons_append, List.nil_append, List.replicate_succ, List.replicate_zero, List.length_cons, List.length_nil, if_true, if_false, reduceIte, Bool.false_eq_true, Bool.not_true, Bool.not_false, decide_true, decide_false, GD])
      (lc_asF (g := gD) (f := fun _ => .int 1) (c := fun g => decide (A x g.2.1 - A x g.1 < g.2.2)) (ks := gs) fun g hg => by
        obtain ⟨a, b, _⟩ := h.gap g hg
        have i1 := ix_r (y := x) (a := g.1) (by omega)
        have i2 := ix_r (y := x) (a := g.2.1) (by omega)
        refine ⟨[.val (SD sp), .val (GD gs), .val (RD (allRows sp)), y3, y4, y5, y6, .val (rowD x), .val (.int ((g.1 : Nat) : Int)), .val (.int ((g.2.1 : Nat) : Int)), .val (.int g.2.2)], rfl, ?_, fun _ => rfl⟩
        simp only [runM, runS, env0, flD, cal, sSeq, sIf, sRet, sRetN, sDrop, sAsg, sOwn, sFrz, frz, sPar, sPar3, sParF, sParF3, mkSl, sNx, sNo, sBk, sCt, sApp, sExt, sSetIx, sAug, sFor, sWhile, m1, m2, mC, mVar, mLook, mAnd, mOr, mNot, mIte, mB, mV, mTru, dTru, mAndV, mOrV, mNotV, mNil, mCons, mTup, mLst, mF, mFS, mItems, mRng, mRng1, mRng2, mRng3, dRng1, dRng2, dRng3, mEnum, mZip, mEnumA, mZipA, mCut, mNoP, mPt, mRev, mNeg, dNeg, dRev, dCut, mLc, mYes, pName, pTup, pTupL, pNil, pCons, wipeS, dAdd, dSub, dMul, dDiv, dMod, dMulI, dAddI, dCmp, dIsN, dNotN, isNone, dLenX, dLen, seqOf, dAbs, dMax2, dMin2, dInt, dTuple, dList, dCatL, dRepL, mSt, mStLen, mStCell, sSt, sSt3, drwGet, drwSet, mCh2, mCh3, mCount, dCount, Option.bind_some, Option.map_some, Option.bind_none, Option.map_none, List.getElem?_cons_zero, List.getElem?_cons_succ, List.set_cons_zero, List.set_cons_succ, List.map_cons, List.map_nil, List.cons_append, List.nil_append, List.replicate_succ, List.replicate_zero, List.length_cons, List.length_nil, if_true, if_false, reduceIte, Bool.false_eq_true, Bool.not_true, Bool.not_false, decide_true, decide_false, i1, i2]) (by
        rw [List.length_map]
        have := List.length_filter_le (fun g : Gap => decide (A x g.2.1 - A x g.1 < g.2.2)) gs
        exact lb_of (by omega))
    have fin := mB_of (m2_of inner (d2 := .list []) (w2 := w0) (mLst0 _ _) (eq_ones (gs.filter fun g => decide (A x g.2.1 - A x g.1 < g.2.2))))
    rw [suits_full h xl]
    exact fin
  unfold G_L_all_years
  refine runM_rt [.val (SD sp), .val (GD gs), .no, .no, .no, .no, .no, .no, .no, .no, .no] rfl ?_
  unfold m_L_all_years
  rw [seq_nx (S1 := Ey sp gs (allRows []) .no .no .no .no) (w1 := w0) (by simp only [runM, runS, env0, flD, cal, sSeq, sIf, sRet, sRetN, sDrop, sAsg, sOwn, sFrz, frz, sPar, sPar3, sParF, sParF3, mkSl, sNx, sNo, sBk, sCt, sApp, sExt, sSetIx, sAug, sFor, sWhile, m1, m2, mC, mVar, mLook, mAnd, mOr, mNot, mIte, mB, mV, mTru, dTru, mAndV, mOrV, mNotV, mNil, mCons, mTup, mLst, mF, mFS, mItems, mRng, mRng1, mRng2, mRng3, dRng1, dRng2, dRng3, mEnum, mZip, mEnumA, mZipA, mCut, mNoP, mPt, mRev, mNeg, dNeg, dRev, dCut, mLc, mYes, pName, pTup, pTupL, pNil, pCons, wipeS, dAdd, dSub, dMul, dDiv, dMod, dMulI, dAddI, dCmp, dIsN, dNotN, isNone, dLenX, dLen, seqOf, dAbs, dMax2, dMin2, dInt, dTuple, dList, dCatL, dRepL, mSt, mStLen, mStCell, sSt, sSt3, drwGet, drwSet, mCh2, mCh3, mCount, dCount, Option.bind_some, Option.map_some, Option.bind_none, Option.map_none, List.getElem?_cons_zero, List.getElem?_cons_succ, List.set_cons_zero, List.set_cons_succ, List.map_cons, List.map_nil, List.cons_append, List.nil_append, List.replicate_succ, List.replicate_zero, List.length_cons, List.length_nil, if_true, if_false, reduceIte, Bool.false_eq_true, Bool.not_true, Bool.not_false, decide_true, decide_false, Ey, Nat.zero_add, if_pos l0, if_pos l1]; rfl)]
  rw [seq_nx (sFor_of (ds := sp.map sD) (w1 := w0) (by simp only [runM, runS, env0, flD, cal, sSeq, sIf, sRet, sRetN, sDrop, sAsg, sOwn, sFrz, frz, sPar, sPar3, sParF, sParF3, mkSl, sNx, sNo, sBk, sCt, sApp, sExt, sSetIx, sAug, sFor, sWhile, m1, m2, mC, mVar, mLook, mAnd, mOr, mNot, mIte, mB, mV, mTru, dTru, mAndV, mOrV, mNotV, mNil, mCons, mTup, mLst, mF, mFS, mItems, mRng, mRng1, mRng2, mRng3, dRng1, dRng2, dRng3, mEnum, mZip, mEnumA, mZipA, mCut, mNoP, mPt, mRev, mNeg, dNeg, dRev, dCut, mLc, mYes, pName, pTup, pTupL, pNil, pCons, wipeS, dAdd, dSub, dMul, dDiv, dMod, dMulI, dAddI, dCmp, dIsN, dNotN, isNone, dLenX, dLen, seqOf, dAbs, dMax2, dMin2, dInt, dTuple, dList, dCatL, dRepL, mSt, mStLen, mStCell, sSt, sSt3, drwGet, drwSet, mCh2, mCh3, mCount, dCount, Option.bind_some, Option.map_some, Option.bind_none, Option.map_none, List.getElem?_cons_zero, List.getElem?_cons_succ, List.set_cons_zero, List.set_cons_succ, List.map_cons, List.map_nil, List.cons_append, List.nil_append, List.replicate_succ, List.replicate_zero, List.length_cons, List.length_nil, if_true, if_false, reduceIte, Bool.false_eq_true, Bool.not_true, Bool.not_false, decide_true, decide_false, Ey, SD]) lp)]
  rw [sRet_of (mLc_of (vs := [7]) (mi := mItems (mLook 2)) (S := Ey sp gs (allRows sp) y3 y4 y5 y6) (w := w0) (w1 := w0) (by simp only [runM, runS, env0, flD, cal, sSeq, sIf, sRet, sRetN, sDrop, sAsg, sOwn, sFrz, frz, sPar, sPar3, sParF, sParF3, mkSl, sNx, sNo, sBk, sCt, sApp, sExt, sSetIx, sAug, sFor, sWhile, m1, m2, mC, mVar, mLook, mAnd, mOr, mNot, mIte, mB, mV, mTru, dTru, mAndV, mOrV, mNotV, mNil, mCons, mTup, mLst, mF, mFS, mItems, mRng, mRng1, mRng2, mRng3, dRng1, dRng2, dRng3, mEnum, mZip, mEnumA, mZipA, mCut, mNoP, mPt, mRev, mNeg, dNeg, dRev, dCut, mLc, mYes, pName, pTup, pTupL, pNil, pCons, wipeS, dAdd, dSub, dMul, dDiv, dMod, dMulI, dAddI, dCmp, dIsN, dNotN, isNone, dLenX, dLen, seqOf, dAbs, dMax2, dMin2, dInt, dTuple, dList, dCatL, dRepL, mSt, mStLen, mStCell, sSt, sSt3, drwGet, drwSet, mCh2, mCh3, mCount, dCount, Option.bind_some, Option.map_some, Option.bind_none, Option.map_none, List.getElem?_cons_zero, List.getElem?_cons_succ, List.set_cons_zero, List.set_cons_succ, List.map_cons, List.map_nil, List.cons_append, List.nil_append, List.replicate_succ, List.replicate_zero, List.length_cons, List.length_nil, if_true, if_false, reduceIte, Bool.false_eq_true, Bool.not_true, Bool.not_false, decide_true, decide_false, Ey, RD]) lc (by
    rw [List.length_map]
    have := List.length_filter_le (suitsB gs) (allRows sp)
    exact lb_of (by omega)))]
  exact ⟨_, _, rfl⟩
end K64

set_option Elab.async false
set_option linter.all false
set_option maxRecDepth 100000
set_option maxHeartbeats 4000000
set_option exponentiation.threshold 10000
namespace K64
open PySem PySem.Spec PyProof.Rows L2 Mini
/-- a draw in place -/
theorem drw {w : Drw} {n : Nat} (h : w.In n) (hn : n < 2 ^ 60) (many : Nat) (h1 : 0 < many) (h2 : many ≤ 1000000) : ∃ (r : Nat) (w' : Drw), (∀ {S : SEnv} {a : ME}, S[0]? = some .stt → a S w = some (.int ((many : Nat) : Int), w) → mFS 0 1 G_L_draw (mCons a mNil) S w = some (.int ((r : Nat) : Int), w')) ∧ r < many ∧ w'.In (n + 1) := by
  obtain ⟨r, w', e, h3, h4⟩ := ev_draw h hn many h1 h2
  exact ⟨r, w', fun hS ha => mFS_of hS ha e, h3, h4⟩
theorem years_lc : ∀ (q : Nat) (lo : Int) (S : SEnv) (w : Drw) (n : Nat), S[0]? = some .stt → w.In n → n + q < 2 ^ 60 → ∃ (ys : List Int) (w' : Drw), lcGo (pName 5) mYes (mFS 0 1 G_L_draw (mCons (mC (.int 9)) mNil)) S (rngD lo 1 q) w = some (ys.map .int, w') ∧ ys.length = q ∧ (∀ y ∈ ys, 0 ≤ y ∧ y ≤ 8) ∧ w'.In (n + q)
  | 0, lo, S, w, n, _, hw, _ => ⟨[], w, rfl, rfl, fun _ h => by (cases h), hw⟩
  | q + 1, lo, S, w, n, hS, hw, hn => by
    obtain ⟨r, w1, e1, r1, i1⟩ := drw hw (by omega) 9 (by decide) (by decide)
    obtain ⟨ys, w2, e2, l2, b2, i2⟩ := years_lc q (lo + 1) S w1 (n + 1) hS i1 (by omega)
    refine ⟨((r : Nat) : Int) :: ys, w2, ?_, by simp [l2], fun y hy => ?_, by rw [show n + (q + 1) = n + 1 + q from by omega]; exact i2⟩
    · have hS' : (S.set 5 (.val (.int lo)))[0]? = some .stt := by rw [List.getElem?_set_ne (by decide)]; exact hS
      rw [rngD_succ, lcGo_cons, show pName 5 (.int lo) S = some (S.set 5 (.val (.int lo))) from rfl, Option.bind_some, show mYes (S.set 5 (.val (.int lo))) w = some (true, w) from rfl, Option.bind_some, if_pos rfl, e1 hS' rfl, Option.bind_some, e2]
      rfl
    · rcases List.mem_cons.mp hy with z | z
      · rw [z]; omega
      · exact b2 y z
def Ef (many : Nat) (ys : List Int) (sp : List Span) (gs : List Gap) (a b c d : Sl) : SEnv := [.stt, .val (.int ((many : Nat) : Int)), .val (yD ys), .own (.list (sp.map sD)), .own (.list (gs.map gD)), a, b, c, d]
def SpanOk (s : Span) : Prop := -3 ≤ s.1 ∧ s.1 ≤ s.2 ∧ s.2 ≤ 11 ∧ s.2 - s.1 ≤ 6
theorem spans_loop {many : Nat} {ys : List Int} (hy : ∀ y ∈ ys, 0 ≤ y ∧ y ≤ 8) (hl : ys.length ≤ 10) : ∀ (q k : Nat) (sp : List Span) (a b c d : Sl) (w : Drw) (n : Nat), k + q ≤ ys.length → sp.length + q ≤ 100 → w.In n → n + 2 * q < 2 ^ 60 → ∃ (sp' : List Span) (a' : Sl) (w' : Drw),
    forGo (pName 5) (sApp 3 (mTup (mCons (m2 dSub (m2 dIx (mLook 2) (mLook 5)) (mFS 0 1 G_L_draw (mCons (mC (.int 4)) mNil))) (mCons (m2 dAdd (m2 dIx (mLook 2) (mLook 5)) (mFS 0 1 G_L_draw (mCons (mC (.int 4)) mNil))) mNil)))) (rngD ((k : Nat) : Int) 1 q) (Ef many ys sp [] a b c d) w = some (.nx, Ef many ys (sp ++ sp') [] a' b c d, w') ∧ sp'.length = q ∧ (∀ s ∈ sp', SpanOk s) ∧ w'.In (n + 2 * q)
  | 0, k, sp, a, b, c, d, w, n, _, _, hw, _ => ⟨[], a, w, by rw [List.append_nil]; rfl, rfl, fun _ h => by (cases h), hw⟩
  | q + 1, k, sp, a, b, c, d, w, n, hk, hs, hw, hn => by
    obtain ⟨r1, w1, e1, b1, i1⟩ := drw hw (by omega) 4 (by decide) (by decide)
    obtain ⟨r2, w2, e2, b2, i2⟩ := drw i1 (by omega) 4 (by decide) (by decide)
    have yk := hy (A ys k) (by rw [A_get (by omega)]; exact List.getElem_mem _)
    obtain ⟨sp', a', w3, e3, l3, o3, i3⟩ := spans_loop (many := many) hy hl q (k + 1) (sp ++ [(A ys k - ((r1 : Nat) : Int), A ys k + ((r2 : Nat) : Int))]) (.val (.int ((k : Nat) : Int))) b c d w2 (n + 1 + 1) (by omega) (by simp; omega) i2 (by omega)
    refine ⟨(A ys k - ((r1 : Nat) : Int), A ys k + ((r2 : Nat) : Int)) :: sp', a', w3, ?_, by simp [l3], fun s h => ?_, by rw [show n + 2 * (q + 1) = n + 1 + 1 + 2 * q from by omega]; exact i3⟩
    · have ix := ix_y (y := ys) (a := k) (by omega)
      have l1 : (sp.map sD).length + 1 ≤ LB := by rw [List.length_map]; exact lb_of (by omega)
      have x : m2 dIx (mLook 2) (mLook 5) (Ef many ys sp [] (.val (.int ((k : Nat) : Int))) b c d) w = some (.int (A ys k), w) := m2_of (d := yD ys) (w1 := w) rfl (d2 := .int ((k : Nat) : Int)) (w2 := w) rfl ix
      have x1 : m2 dIx (mLook 2) (mLook 5) (Ef many ys sp [] (.val (.int ((k : Nat) : Int))) b c d) w1 = some (.int (A ys k), w1) := m2_of (d := yD ys) (w1 := w1) rfl (d2 := .int ((k : Nat) : Int)) (w2 := w1) rfl ix
      have tp := mTup2_of (m2_of (g := dSub) x (e1 (S := Ef many ys sp [] (.val (.int ((k : Nat) : Int))) b c d) (a := mC (.int 4)) rfl rfl) rfl) (m2_of (g := dAdd) x1 (e2 (S := Ef many ys sp [] (.val (.int ((k : Nat) : Int))) b c d) (a := mC (.int 4)) rfl rfl) rfl)
      rw [rngD_succ, forGo_cons, show pName 5 (.int ((k : Nat) : Int)) (Ef many ys sp [] a b c d) = some (Ef many ys sp [] (.val (.int ((k : Nat) : Int))) b c d) from rfl, Option.bind_some]
      have ap : sApp 3 (mTup (mCons (m2 dSub (m2 dIx (mLook 2) (mLook 5)) (mFS 0 1 G_L_draw (mCons (mC (.int 4)) mNil))) (mCons (m2 dAdd (m2 dIx (mLook 2) (mLook 5)) (mFS 0 1 G_L_draw (mCons (mC (.int 4)) mNil))) mNil))) (Ef many ys sp [] (.val (.int ((k : Nat) : Int))) b c d) w =
          some (.nx, Ef many ys (sp ++ [(A ys k - ((r1 : Nat) : Int), A ys k + ((r2 : Nat) : Int))]) [] (.val (.int ((k : Nat) : Int))) b c d, w2) := by
        unfold sApp
        show (mTup _ _ _).bind _ = _
        rw [tp, Option.bind_some, if_pos l1]
        have : (sp ++ [(A ys k - ((r1 : Nat) : Int), A ys k + ((r2 : Nat) : Int))]).map sD = sp.map sD ++ [.tuple [.int (A ys k - ((r1 : Nat) : Int)), .int (A ys k + ((r2 : Nat) : Int))]] := by rw [List.map_append]; rfl
        unfold Ef
        rw [this]
        rfl
      rw [ap, Option.bind_some]
      rw [List.append_assoc] at e3
      have ek : ((k : Nat) : Int) + 1 = ((k + 1 : Nat) : Int) := by omega
      rw [ek]
      exact e3
    · rcases List.mem_cons.mp h with z | z
      · rw [z]
        unfold SpanOk
        simp only
        omega
      · exact o3 s z
def GapFine (many : Nat) (g : Gap) : Prop := GapOk many g ∧ -20 ≤ g.2.2 ∧ g.2.2 ≤ 20
theorem gaps_loop {many : Nat} {ys : List Int} {sp : List Span} (hy : ∀ y ∈ ys, 0 ≤ y ∧ y ≤ 8) (hl : ys.length = many) (hm : 0 < many) (hm2 : many ≤ 10) : ∀ (q : Nat) (lo : Int) (gs : List Gap) (a b c d : Sl) (w : Drw) (n : Nat), gs.length + q ≤ 100 → w.In n → n + 5 * q < 2 ^ 60 → ∃ (gs' : List Gap) (b' c' d' : Sl) (w' : Drw) (n' : Nat),
    forGo (pName 6) (sSeq (sPar 7 8 (mCons (mFS 0 1 G_L_draw (mCons (mVar 1) mNil)) (mCons (mFS 0 1 G_L_draw (mCons (mVar 1) mNil)) mNil)))
    (sExt 4 (mIte (mB (m2 dNe (mLook 7) (mLook 8))) (mLst (mCons (mTup (mCons (mVar 7) (mCons (mVar 8) (mCons (m2 dAdd (m2 dSub (m2 dSub (m2 dIx (mLook 2) (mLook 8)) (m2 dIx (mLook 2) (mLook 7))) (mFS 0 1 G_L_draw (mCons (mC (.int 3)) mNil))) (mIte (mB (m2 dEq (mFS 0 1 G_L_draw (mCons (mC (.int 4)) mNil)) (mC (.int 0)))) (mFS 0 1 G_L_draw (mCons (mC (.int 3)) mNil)) (mC (.int 0)))) mNil)))) mNil)) (mLst mNil)))) (rngD lo 1 q)
      (Ef many ys sp gs a b c d) w = some (.nx, Ef many ys sp (gs ++ gs') a b' c' d', w') ∧ gs'.length ≤ q ∧ (∀ g ∈ gs', GapFine many g) ∧ w'.In n' ∧ n' ≤ n + 5 * q
  | 0, lo, gs, a, b, c, d, w, n, _, hw, _ => ⟨[], b, c, d, w, n, by rw [List.append_nil]; rfl, Nat.le_refl _, fun _ h => by (cases h), hw, by omega⟩
  | q + 1, lo, gs, a, b, c, d, w, n, hg, hw, hn => by
    obtain ⟨o1, w1, e1, b1, i1⟩ := drw hw (by omega) many hm (by omega)
    obtain ⟨o2, w2, e2, b2, i2⟩ := drw i1 (by omega) many hm (by omega)
    have par : sPar 7 8 (mCons (mFS 0 1 G_L_draw (mCons (mVar 1) mNil)) (mCons (mFS 0 1 G_L_draw (mCons (mVar 1) mNil)) mNil)) (Ef many ys sp gs a (.val (.int lo)) c d) w = some (.nx, Ef many ys sp gs a (.val (.int lo)) (.val (.int ((o1 : Nat) : Int))) (.val (.int ((o2 : Nat) : Int))), w2) := by
      unfold sPar
      simp only [mCons, mNil] at e1 e2 ⊢
      rw [e1 (S := Ef many ys sp gs a (.val (.int lo)) c d) (a := mVar 1) rfl rfl, Option.bind_some, e2 (S := Ef many ys sp gs a (.val (.int lo)) c d) (a := mVar 1) rfl rfl]
      rfl
    have key : ∃ (new : List Gap) (w3 : Drw) (n3 : Nat), (mIte (mB (m2 dNe (mLook 7) (mLook 8))) (mLst (mCons (mTup (mCons (mVar 7) (mCons (mVar 8) (mCons (m2 dAdd (m2 dSub (m2 dSub (m2 dIx (mLook 2) (mLook 8)) (m2 dIx (mLook 2) (mLook 7))) (mFS 0 1 G_L_draw (mCons (mC (.int 3)) mNil))) (mIte (mB (m2 dEq (mFS 0 1 G_L_draw (mCons (mC (.int 4)) mNil)) (mC (.int 0)))) (mFS 0 1 G_L_draw (mCons (mC (.int 3)) mNil)) (mC (.int 0)))) mNil)))) mNil)) (mLst mNil))
        (Ef many ys sp gs a (.val (.int lo)) (.val (.int ((o1 : Nat) : Int))) (.val (.int ((o2 : Nat) : Int)))) w2 = some (.list (new.map gD), w3) ∧ new.length ≤ 1 ∧ (∀ g ∈ new, GapFine many g) ∧ w3.In n3 ∧ n3 ≤ n + 5 := by
      have ne := dNe_int ((o1 : Nat) : Int) ((o2 : Nat) : Int)
      have t0 : mB (m2 dNe (mLook 7) (mLook 8)) (Ef many ys sp gs a (.val (.int lo)) (.val (.int ((o1 : Nat) : Int))) (.val (.int ((o2 : Nat) : Int)))) w2 = some (!decide (((o1 : Nat) : Int) = ((o2 : Nat) : Int)), w2) := mB_of (m2_of (d := .int ((o1 : Nat) : Int)) (w1 := w2) rfl (d2 := .int ((o2 : Nat) : Int)) (w2 := w2) rfl ne)
      by_cases he : o1 = o2
      · refine ⟨[], w2, _, ?_, by simp, fun _ h => by (cases h), i2, by omega⟩
        unfold mIte
        rw [t0, Option.bind_some, decide_eq_true (by omega), if_neg (by exact Bool.false_ne_true)]
        exact mLst0 _ _
      · obtain ⟨r3, w3, e3, b3, i3⟩ := drw i2 (by omega) 3 (by decide) (by decide)
        obtain ⟨r4, w4, e4, b4, i4⟩ := drw i3 (by omega) 4 (by decide) (by decide)
        have x1 := ix_y (y := ys) (a := o1) (by omega)
        have x2 := ix_y (y := ys) (a := o2) (by omega)
        have y1 := hy (A ys o1) (by rw [A_get (by omega)]; exact List.getElem_mem _)
        have y2 := hy (A ys o2) (by rw [A_get (by omega)]; exact List.getElem_mem _)
        have sub : m2 dSub (m2 dSub (m2 dIx (mLook 2) (mLook 8)) (m2 dIx (mLook 2) (mLook 7))) (mFS 0 1 G_L_draw (mCons (mC (.int 3)) mNil)) (Ef many ys sp gs a (.val (.int lo)) (.val (.int ((o1 : Nat) : Int))) (.val (.int ((o2 : Nat) : Int)))) w2 = some (.int (A ys o2 - A ys o1 - ((r3 : Nat) : Int)), w3) :=
          m2_of (m2_of (m2_of (d := yD ys) (w1 := w2) rfl (d2 := .int ((o2 : Nat) : Int)) (w2 := w2) rfl x2) (m2_of (d := yD ys) (w1 := w2) rfl (d2 := .int ((o1 : Nat) : Int)) (w2 := w2) rfl x1) rfl) (e3 (a := mC (.int 3)) rfl rfl) rfl
        have eq4 := dEq_int ((r4 : Nat) : Int) 0
        have t4 : mB (m2 dEq (mFS 0 1 G_L_draw (mCons (mC (.int 4)) mNil)) (mC (.int 0))) (Ef many ys sp gs a (.val (.int lo)) (.val (.int ((o1 : Nat) : Int))) (.val (.int ((o2 : Nat) : Int)))) w3 = some (decide (((r4 : Nat) : Int) = 0), w4) := mB_of (m2_of (e4 (a := mC (.int 4)) rfl rfl) (d2 := .int 0) (w2 := w4) rfl eq4)
        have last : ∃ (z : Int) (w5 : Drw) (n5 : Nat), mIte (mB (m2 dEq (mFS 0 1 G_L_draw (mCons (mC (.int 4)) mNil)) (mC (.int 0)))) (mFS 0 1 G_L_draw (mCons (mC (.int 3)) mNil)) (mC (.int 0)) (Ef many ys sp gs a (.val (.int lo)) (.val (.int ((o1 : Nat) : Int))) (.val (.int ((o2 : Nat) : Int)))) w3 = some (.int z, w5) ∧ 0 ≤ z ∧ z ≤ 2 ∧ w5.In n5 ∧ n5 ≤ n + 5 := by
          by_cases h4 : ((r4 : Nat) : Int) = 0
          · obtain ⟨r5, w5, e5, b5, i5⟩ := drw i4 (by omega) 3 (by decide) (by decide)
            refine ⟨((r5 : Nat) : Int), w5, _, ?_, by omega, by omega, i5, by omega⟩
            unfold mIte
            rw [t4, Option.bind_some, decide_eq_true h4, if_pos rfl]
            exact e5 (a := mC (.int 3)) rfl rfl
          · refine ⟨0, w4, _, ?_, by omega, by omega, i4, by omega⟩
            unfold mIte
            rw [t4, Option.bind_some, decide_eq_false h4, if_neg Bool.false_ne_true]
            rfl
        obtain ⟨z, w5, n5, e5, z0, z2, i5, ln⟩ := last
        refine ⟨[(o1, o2, A ys o2 - A ys o1 - ((r3 : Nat) : Int) + z)], w5, n5, ?_, by simp, fun g h => ?_, i5, ln⟩
        · have ad := m2_of (g := dAdd) sub e5 rfl
          unfold mIte
          rw [t0, Option.bind_some, decide_eq_false (by omega), Bool.not_false, if_pos rfl]
          have l3 : (3 : Nat) ≤ LB := by decide
          have l1 : (1 : Nat) ≤ LB := by decide
          have v7 : mVar 7 (Ef many ys sp gs a (.val (.int lo)) (.val (.int ((o1 : Nat) : Int))) (.val (.int ((o2 : Nat) : Int)))) w2 = some (.int ((o1 : Nat) : Int), w2) := rfl
          have v8 : mVar 8 (Ef many ys sp gs a (.val (.int lo)) (.val (.int ((o1 : Nat) : Int))) (.val (.int ((o2 : Nat) : Int)))) w2 = some (.int ((o2 : Nat) : Int), w2) := rfl
          unfold mIte at ad
          unfold mLst mTup
          simp only [mCons, mNil, v7, v8, Option.bind_some, Option.map_some] at ad ⊢
          rw [ad]
          simp only [Option.bind_some, Option.map_some, List.length_cons, List.length_nil, Nat.zero_add, Nat.reduceAdd, if_pos l3, if_pos l1]
          rfl
        · rw [List.mem_singleton.mp h]
          refine ⟨⟨b1, b2, he⟩, ?_, ?_⟩ <;> simp only <;> omega
    obtain ⟨new, w3, n3, e3, l3, f3, i3, ln⟩ := key
    obtain ⟨gs', b', c', d', w4, n4, e4, l4, f4, i4, ln4⟩ := gaps_loop (sp := sp) hy hl hm hm2 q (lo + 1) (gs ++ new) a (.val (.int lo)) (.val (.int ((o1 : Nat) : Int))) (.val (.int ((o2 : Nat) : Int))) w3 n3 (by simp; omega) i3 (by omega)
    refine ⟨new ++ gs', b', c', d', w4, n4, ?_, by simp; omega, fun g h => (List.mem_append.mp h).elim (f3 g) (f4 g), i4, by omega⟩
    rw [rngD_succ, forGo_cons, show pName 6 (.int lo) (Ef many ys sp gs a b c d) = some (Ef many ys sp gs a (.val (.int lo)) c d) from rfl, Option.bind_some, seq_nx par]
    have lx : (gs.map gD).length + (new.map gD).length ≤ LB := by rw [List.length_map, List.length_map]; exact lb_of (by omega)
    have ex : ∀ {e : ME}, e (Ef many ys sp gs a (.val (.int lo)) (.val (.int ((o1 : Nat) : Int))) (.val (.int ((o2 : Nat) : Int)))) w2 = some (.list (new.map gD), w3) → sExt 4 e (Ef many ys sp gs a (.val (.int lo)) (.val (.int ((o1 : Nat) : Int))) (.val (.int ((o2 : Nat) : Int)))) w2 = some (.nx, Ef many ys sp (gs ++ new) a (.val (.int lo)) (.val (.int ((o1 : Nat) : Int))) (.val (.int ((o2 : Nat) : Int))), w3) := fun {e} h => by
      unfold sExt
      show (e _ _).bind _ = _
      rw [h, Option.bind_some]
      show (if (gs.map gD).length + (new.map gD).length ≤ LB then _ else _) = _
      rw [if_pos lx, ← List.map_append]
      rfl
    rw [ex e3, Option.bind_some, ← List.append_assoc]
    exact e4
theorem ev_finds {many : Nat} {w : Drw} {n : Nat} (h : w.In n) (hm : 0 < many) (hm2 : many ≤ 10) (hn : n + 100 < 2 ^ 60) : ∃ (sp : List Span) (gs : List Gap) (w' : Drw) (n' : Nat), G_L_finds [.int ((many : Nat) : Int)] w = some (.tuple [SD sp, GD gs], w') ∧ sp.length = many ∧ (∀ s ∈ sp, SpanOk s) ∧ gs.length ≤ 4 ∧ (∀ g ∈ gs, GapFine many g) ∧ w'.In n' ∧ n' ≤ n + 60 := by
  obtain ⟨ys, w1, e1, l1, b1, i1⟩ := years_lc many 0 (wipeS [.stt, .val (.int ((many : Nat) : Int)), .no, .no, .no, .no, .no, .no, .no] [5]) w n rfl h (by omega)
  obtain ⟨sp, a, w2, e2, l2, o2, i2⟩ := spans_loop (many := many) (ys := ys) b1 (by omega) many 0 [] .no .no .no .no w1 (n + many) (by omega) (by simp; omega) i1 (by omega)
  obtain ⟨q, w3, e3, q5, i3⟩ := drw i2 (by omega) 5 (by decide) (by decide)
  obtain ⟨gs, b', c', d', w4, n4, e4, l4, f4, i4, ln4⟩ := gaps_loop (sp := sp) (ys := ys) b1 l1 hm hm2 q 0 [] a .no .no .no w3 (n + many + 2 * many + 1) (by simp; omega) i3 (by omega)
  rw [List.nil_append] at e2 e4
  refine ⟨sp, gs, w4, n4, ?_, l2, o2, by omega, f4, i4, by omega⟩
  unfold G_L_finds
  refine runS_rt [.stt, .val (.int ((many : Nat) : Int)), .no, .no, .no, .no, .no, .no, .no] rfl ?_
  unfold m_L_finds
  have sm := smallI_of (i := ((many : Nat) : Int)) (by omega) (by omega)
  have sq := smallI_of (i := ((q : Nat) : Int)) (by omega) (by omega)
  have lc := mLc_of (mi := mRng1 (mCons (mVar 1) mNil)) (vs := [5]) (S := [.stt, .val (.int ((many : Nat) : Int)), .no, .no, .no, .no, .no, .no, .no]) (w := w) (w1 := w) (by simp only [runM, runS, env0, flD, cal, sSeq, sIf, sRet, sRetN, sDrop, sAsg, sOwn, sFrz, frz, sPar, sPar3, sParF, sParF3, mkSl, sNx, sNo, sBk, sCt, sApp, sExt, sSetIx, sAug, sFor, sWhile, m1, m2, mC, mVar, mLook, mAnd, mOr, mNot, mIte, mB, mV, mTru, dTru, mAndV, mOrV, mNotV, mNil, mCons, mTup, mLst, mF, mFS, mItems, mRng, mRng1, mRng2, mRng3, dRng1, dRng2, dRng3, mEnum, mZip, mEnumA, mZipA, mCut, mNoP, mPt, mRev, mNeg, dNeg, dRev, dCut, mLc, mYes, pName, pTup, pTupL, pNil, pCons, wipeS, dAdd, dSub, dMul, dDiv, dMod, dMulI, dAddI, dCmp, dIsN, dNotN, isNone, dLenX, dLen, seqOf, dAbs, dMax2, dMin2, dInt, dTuple, dList, dCatL, dRepL, mSt, mStLen, mStCell, sSt, sSt3, drwGet, drwSet, mCh2, mCh3, mCount, dCount, Option.bind_some, Option.map_some, Option.bind_none, Option.map_none, List.getElem?_cons_zero, List.getElem?_cons_succ, List.set_cons_zero, List.set_cons_succ, List.map_cons, List.map_nil, List.cons_append, List.nil_append, List.replicate_succ, List.replicate_zero, List.length_cons, List.length_nil, if_true, if_false, reduceIte, Bool.false_eq_true, Bool.not_true, Bool.not_false, decide_true, decide_false, if_pos sm, Int.toNat_natCast]) e1 (by rw [List.length_map]; exact lb_of (by omega))
  rw [seq_nx (S1 := Ef many ys [] [] .no .no .no .no) (w1 := w1) (by
    unfold sParF3
    rw [lc, Option.bind_some, mLst0, Option.bind_some, mLst0, Option.bind_some]
    rfl)]
  rw [seq_nx (sFor_of (w1 := w1) (ds := rngD 0 1 many) (by simp only [runM, runS, env0, flD, cal, sSeq, sIf, sRet, sRetN, sDrop, sAsg, sOwn, sFrz, frz, sPar, sPar3, sParF, sParF3, mkSl, sNx, sNo, sBk, sCt, sApp, sExt, sSetIx, sAug, sFor, sWhile, m1, m2, mC, mVar, mLook, mAnd, mOr, mNot, mIte, mB, mV, mTru, dTru, mAndV, mOrV, mNotV, mNil, mCons, mTup, mLst, mF, mFS, mItems, mRng, mRng1, mRng2, mRng3, dRng1, dRng2, dRng3, mEnum, mZip, mEnumA, mZipA, mCut, mNoP, mPt, mRev, mNeg, dNeg, dRev, dCut, mLc, mYes, pName, pTup, pTupL, pNil, pCons, wipeS, dAdd, dSub, dMul, dDiv, dMod, dMulI, dAddI, dCmp, dIsN, dNotN, isNone, dLenX, dLen, seqOf, dAbs, dMax2, dMin2, dInt, dTuple, dList, dCatL, dRepL, mSt, mStLen, mStCell, sSt, sSt3, drwGet, drwSet, mCh2, mCh3, mCount, dCount, Option.bind_some, Option.map_some, Option.bind_none, Option.map_none, List.getElem?_cons_zero, List.getElem?_cons_succ, List.set_cons_zero, List.set_cons_succ, List.map_cons, List.map_nil, List.cons_append, List.nil_append, List.replicate_succ, List.replicate_zero, List.length_cons, List.length_nil, if_true, if_false, reduceIte, Bool.false_eq_true, Bool.not_true, Bool.not_false, decide_true, decide_false, Ef, if_pos sm, Int.toNat_natCast]) e2)]
  rw [seq_nx (sFor_of (w1 := w3) (ds := rngD 0 1 q) (by
    have := e3 (S := Ef many ys sp [] a .no .no .no) (a := mC (.int 5)) rfl rfl
    unfold mRng1 mRng
    simp only [mCons, mNil] at this ⊢
    rw [this]
    simp only [dRng1, Option.bind_some, Option.map_some, sq]
    rfl) e4)]
  rw [sRet_of (d := .tuple [SD sp, GD gs]) (w1 := w4) (mTup2_of (mF1_of (g := dTuple) (d := .list (sp.map sD)) (w1 := w4) rfl rfl) (mF1_of (g := dTuple) (d := .list (gs.map gD)) (w1 := w4) rfl rfl))]
  exact ⟨_, rfl⟩
end K64

set_option Elab.async false
set_option linter.all false
set_option maxRecDepth 100000
set_option maxHeartbeats 4000000
set_option exponentiation.threshold 10000
namespace K64
open PySem PySem.Spec PyProof.Rows L2 Mini
theorem mF4_of {g : List PyData → Option PyData} {a b c d' : ME} {S : SEnv} {w w1 w2 w3 w4 : Drw} {d d2 d3 d4 e : PyData} (h : a S w = some (d, w1)) (h2 : b S w1 = some (d2, w2)) (h3 : c S w2 = some (d3, w3)) (h4 : d' S w3 = some (d4, w4)) (hg : g [d, d2, d3, d4] = some e) : mF g (mCons a (mCons b (mCons c (mCons d' mNil)))) S w = some (e, w4) := by
  unfold mF
  simp only [mCons, mNil, h, h2, h3, h4, Option.bind_some, Option.map_some, hg]
theorem cal_of {n : Nat} {g : List PyData → Option PyData} {ds : List PyData} {d : PyData} (h : ds.length = n) (hg : g ds = some d) : cal n g ds = some d := by
  unfold cal; rw [if_pos h]; exact hg
theorem rowsOf_small {sp : List Span} {gs : List Gap} {rows : List (List Int)} (h : Sys sp gs) (nd : rows.Nodup) (mem : ∀ x, x ∈ rows ↔ Sol sp gs x) (few : rows.length ≤ 100000) (h4 : sp.length ≤ 4) (hw : ∀ s ∈ sp, s.2 - s.1 ≤ 6) : RowsOf sp gs rows :=
  ⟨nd, mem, few, fun hne => by
    obtain ⟨x, hx⟩ := List.exists_mem_of_ne_nil rows hne
    exact count_small (by rw [bnds_len]; exact h4) (bnds_thin h ((mem x).mp hx) hw)⟩
def ltRow (sp : List Span) (gs : List Gap) (i : Nat) : PyData := .list ((List.range sp.length).map fun o => .int (lgap sp gs i o))
def LT (sp : List Span) (gs : List Gap) : PyData := .list ((List.range sp.length).map (ltRow sp gs))
theorem ix_LT {sp : List Span} {gs : List Gap} {i : Nat} (h : i < sp.length) : dIx (LT sp gs) (.int ((i : Nat) : Int)) = some (ltRow sp gs i) := by
  unfold LT
  rw [ix_nat (by simp; exact h)]
  simp
theorem ix_ltRow {sp : List Span} {gs : List Gap} {i o : Nat} (h : o < sp.length) : dIx (ltRow sp gs i) (.int ((o : Nat) : Int)) = some (.int (lgap sp gs i o)) := by
  unfold ltRow
  rw [ix_nat (by simp; exact h)]
  simp
theorem shp_LT (sp : List Span) (gs : List Gap) : shp 8 (LT sp gs) = true := by
  show ((List.range sp.length).map (ltRow sp gs)).all (shp 7) = true
  rw [List.all_map]
  refine List.all_eq_true.mpr fun i _ => ?_
  show ((List.range sp.length).map fun o => PyData.int (lgap sp gs i o)).all (shp 6) = true
  rw [List.all_map]
  exact List.all_eq_true.mpr fun _ _ => rfl
def Eh (sp : List Span) (gs : List Gap) (rows : List (List Int)) (l a b c bo mo k one oth both own : Sl) : SEnv := [.stt, .val (SD sp), .val (GD gs), .val (RD rows), .val (.int ((sp.length : Nat) : Int)), l, a, b, c, bo, mo, k, one, oth, both, own]
section
variable {sp : List Span} {gs : List Gap} {rows : List (List Int)} {w : Drw}
theorem rg_many {l a b c bo mo k one oth both own : Sl} (f7 : sp.length ≤ 7) : mRng1 (mCons (mVar 4) mNil) (Eh sp gs rows l a b c bo mo k one oth both own) w = some ((List.range sp.length).map fun k => .int ((k : Nat) : Int), w) := by
  have sm := smallI_of (i := ((sp.length : Nat) : Int)) (by omega) (by omega)
  rw [← rngD_0]
  simp only [runM, runS, env0, flD, cal, sSeq, sIf, sRet, sRetN, sDrop, sAsg, sOwn, sFrz, frz, sPar, sPar3, sParF, sParF3, mkSl, sNx, sNo, sBk, sCt, sApp, sExt, sSetIx, sAug, sFor, sWhile, m1, m2, mC, mVar, mLook, mAnd, mOr, mNot, mIte, mB, mV, mTru, dTru, mAndV, mOrV, mNotV, mNil, mCons, mTup, mLst, mF, mFS, mItems, mRng, mRng1, mRng2, mRng3, dRng1, dRng2, dRng3, mEnum, mZip, mEnumA, mZipA, mCut, mNoP, mPt, mRev, mNeg, dNeg, dRev, dCut, mLc, mYes, pName, pTup, pTupL, pNil, pCons, wipeS, dAdd, dSub, dMul, dDiv, dMod, dMulI, dAddI, dCmp, dIsN, dNotN, isNone, dLenX, dLen, seqOf, dAbs, dMax2, dMin2, dInt, dTuple, dList, dCatL, dRepL, mSt, mStLen, mStCell, sSt, sSt3, drwGet, drwSet, mCh2, mCh3, mCount, dCount, Option.bind_some, Option.map_some, Option.bind_none, Option.map_none, List.getElem?_cons_zero, List.getElem?_cons_succ, List.set_cons_zero, List.set_cons_succ, List.map_cons, List.map_nil, List.cons_append, List.nil_append, List.replicate_succ, List.replicate_zero, List.length_cons, List.length_nil, if_true, if_false, reduceIte, Bool.false_eq_true, Bool.not_true, Bool.not_false, decide_true, decide_false, Eh, if_pos sm, Int.toNat_natCast]
theorem table1 (h : Sys sp gs) {x : List Int} (hx : Sol sp gs x) : mLc (mRng1 (mCons (mVar 4) mNil)) (pName 12) mYes (mLc (mRng1 (mCons (mVar 4) mNil)) (pName 13) mYes (mF (cal 4 G_least_gap) (mCons (mVar 1) (mCons (mVar 2) (mCons (mVar 12) (mCons (mVar 13) mNil))))) [13]) [12]
    (Eh sp gs rows .no .no .no .no .no .no .no .no .no .no .no) w = some (LT sp gs, w) := by
  have f7 := h.few
  refine mLc_of (w1 := w) (rg_many f7) (lc_as (f := ltRow sp gs) fun i hi => ⟨Eh sp gs rows .no .no .no .no .no .no .no (.val (.int ((i : Nat) : Int))) .no .no .no, rfl, ?_⟩) (by simp; exact lb_of (by omega))
  have hi := List.mem_range.mp hi
  refine mLc_of (w1 := w) (rg_many f7) (lc_as (f := fun o => .int (lgap sp gs i o)) fun o ho => ⟨Eh sp gs rows .no .no .no .no .no .no .no (.val (.int ((i : Nat) : Int))) (.val (.int ((o : Nat) : Int))) .no .no, rfl, ?_⟩) (by simp; exact lb_of (by omega))
  have ho := List.mem_range.mp ho
  exact mF4_of (d := SD sp) (w1 := w) rfl (d2 := GD gs) (w2 := w) rfl (d3 := .int ((i : Nat) : Int)) (w3 := w) rfl (d4 := .int ((o : Nat) : Int)) (w4 := w) rfl (cal_of (n := 4) rfl (ev_least_gap h hx hi ho))
theorem table2 (h : Sys sp gs) (R : RowsOf sp gs rows) {x : List Int} (hx : Sol sp gs x) : mLc (mRng1 (mCons (mVar 4) mNil)) (pName 12) mYes (mLc (mRng1 (mCons (mVar 4) mNil)) (pName 13) mYes (mF (dBest PySem.W.minD) (mCons (mLc (mItems (mLook 3)) (pName 15) mYes (m2 dSub (m2 dIx (mLook 15) (mLook 13)) (m2 dIx (mLook 15) (mLook 12))) [15]) mNil)) [13]) [12]
    (Eh sp gs rows (.val (LT sp gs)) .no .no .no .no .no .no .no .no .no .no) w = some (LT sp gs, w) := by
  have f7 := h.few
  refine mLc_of (w1 := w) (rg_many f7) (lc_as (f := ltRow sp gs) fun i hi => ⟨Eh sp gs rows (.val (LT sp gs)) .no .no .no .no .no .no (.val (.int ((i : Nat) : Int))) .no .no .no, rfl, ?_⟩) (by simp; exact lb_of (by omega))
  have hi := List.mem_range.mp hi
  refine mLc_of (w1 := w) (rg_many f7) (lc_as (f := fun o => .int (lgap sp gs i o)) fun o ho => ⟨Eh sp gs rows (.val (LT sp gs)) .no .no .no .no .no .no (.val (.int ((i : Nat) : Int))) (.val (.int ((o : Nat) : Int))) .no .no, rfl, ?_⟩) (by simp; exact lb_of (by omega))
  have ho := List.mem_range.mp ho
  have inner := mLc_of (mi := mItems (mLook 3)) (p := pName 15) (t := mYes) (e := m2 dSub (m2 dIx (mLook 15) (mLook 13)) (m2 dIx (mLook 15) (mLook 12))) (vs := [15]) (S := Eh sp gs rows (.val (LT sp gs)) .no .no .no .no .no .no (.val (.int ((i : Nat) : Int))) (.val (.int ((o : Nat) : Int))) .no .no) (w := w) (w1 := w) (ds := rows.map rowD) (by simp only [runM, runS, env0, flD, cal, sSeq, sIf, sRet, sRetN, sDrop, sAsg, sOwn, sFrz, frz, sPar, sPar3, sParF, sParF3, mkSl, sNx, sNo, sBk, sCt, sApp, sExt, sSetIx, sAug, sFor, sWhile, m1, m2, mC, mVar, mLook, mAnd, mOr, mNot, mIte, mB, mV, mTru, dTru, mAndV, mOrV, mNotV, mNil, mCons, mTup, mLst, mF, mFS, mItems, mRng, mRng1, mRng2, mRng3, dRng1, dRng2, dRng3, mEnum, mZip, mEnumA, mZipA, mCut, mNoP, mPt, mRev, mNeg, dNeg, dRev, dCut, mLc, mYes, pName, pTup, pTupL, pNil, pCons, wipeS, dAdd, dSub, dMul, dDiv, dMod, dMulI, dAddI, dCmp, dIsN, dNotN, isNone, dLenX, dLen, seqOf, dAbs, dMax2, dMin2, dInt, dTuple, dList, dCatL, dRepL, mSt, mStLen, mStCell, sSt, sSt3, drwGet, drwSet, mCh2, mCh3, mCount, dCount, Option.bind_some, Option.map_some, Option.bind_none, Option.map_none, List.getElem?_cons_zero, List.getElem?_cons_succ, List.set_cons_zero, List.set_cons_succ, List.map_cons, List.map_nil, List.cons_append, List.nil_append, List.replicate_succ, List.replicate_zero, List.length_cons, List.length_nil, if_true, if_false, reduceIte, Bool.false_eq_true, Bool.not_true, Bool.not_false, decide_true, decide_false, Eh, RD])
    (lc_as (g := rowD) (f := fun r => .int (A r o - A r i)) (ks := rows) fun r hr => ⟨Eh sp gs rows (.val (LT sp gs)) .no .no .no .no .no .no (.val (.int ((i : Nat) : Int))) (.val (.int ((o : Nat) : Int))) .no (.val (rowD r)), rfl, by
      have rl := ((R.mem r).mp hr).len
      exact m2_of (m2_of (d := rowD r) (w1 := w) rfl (d2 := .int ((o : Nat) : Int)) (w2 := w) rfl (ix_r (by omega))) (m2_of (d := rowD r) (w1 := w) rfl (d2 := .int ((i : Nat) : Int)) (w2 := w) rfl (ix_r (by omega))) rfl⟩) (by rw [List.length_map]; exact lb_of (by have := R.few; omega))
  obtain ⟨l1, y, hy, l2⟩ := lgap_ok h hx hi ho
  have mn := min_is (xs := rows.map fun r => A r o - A r i) (l := lgap sp gs i o) (fun z hz => by
    obtain ⟨r, hr, rfl⟩ := List.mem_map.mp hz
    exact l1 r ((R.mem r).mp hr)) (List.mem_map.mpr ⟨y, (R.mem y).mpr hy, l2⟩)
  rw [List.map_map] at mn
  exact mF1_of inner mn
theorem ad_gap {l a b c bo mo k one oth both own : Sl} {p q : Nat} {z : Int} {e : ME} (hg : gs.length ≤ 20) (ha : a = .val (.int ((p : Nat) : Int))) (hb : b = .val (.int ((q : Nat) : Int))) (he : e (Eh sp gs rows l a b c bo mo k one oth both own) w = some (.int z, w)) :
    m2 dAdd (mLook 2) (mTup (mCons (mTup (mCons (mVar 6) (mCons (mVar 7) (mCons e mNil)))) mNil)) (Eh sp gs rows l a b c bo mo k one oth both own) w = some (GD (gs ++ [(p, q, z)]), w) := by
  subst ha; subst hb
  have l3 : (3 : Nat) ≤ LB := by decide
  have l1 : (1 : Nat) ≤ LB := by decide
  have v7 : mVar 6 (Eh sp gs rows l (.val (.int ((p : Nat) : Int))) (.val (.int ((q : Nat) : Int))) c bo mo k one oth both own) w = some (.int ((p : Nat) : Int), w) := rfl
  have v8 : mVar 7 (Eh sp gs rows l (.val (.int ((p : Nat) : Int))) (.val (.int ((q : Nat) : Int))) c bo mo k one oth both own) w = some (.int ((q : Nat) : Int), w) := rfl
  refine m2_of (d := GD gs) (w1 := w) rfl (d2 := .tuple [gD (p, q, z)]) (w2 := w) ?_ ?_
  · unfold mTup
    simp only [mCons, mNil, v7, v8, he, Option.bind_some, Option.map_some, List.length_cons, List.length_nil, Nat.zero_add, Nat.reduceAdd, if_pos l3, if_pos l1]
    rfl
  · unfold GD
    rw [dAdd_tup (by simp; omega), List.map_append]
    rfl
theorem sys_app (h : Sys sp gs) (hg : gs.length ≤ 10) {g : Gap} (ok : GapOk sp.length g) (h1 : -3000 ≤ g.2.2) (h2 : g.2.2 ≤ 3000) : Sys sp (gs ++ [g]) := h.gaps (by simp; omega) fun z hz => by
  rcases List.mem_append.mp hz with q | q
  · exact .inl q
  · rw [List.mem_singleton.mp q]; exact .inr ⟨ok, h1, h2⟩
theorem any_nD (ks : List Nat) (k : Nat) : anyB (nD ks) (.int ((k : Nat) : Int)) = decide (k ∈ ks) := by
  have e : nD ks = (ks.map fun k => ((k : Nat) : Int)).map .int := by unfold nD; rw [List.map_map]; rfl
  rw [e, Mini.any_ints]
  congr 1
  rw [List.mem_map]
  refine propext ⟨?_, fun h => ⟨k, h, rfl⟩⟩
  rintro ⟨a, h1, h2⟩
  have : a = k := by omega
  rw [← this]; exact h1
theorem shp_nD (n : Nat) (ks : List Nat) : (nD ks).all (shp n) = true := by
  unfold nD
  rw [List.all_map]
  exact List.all_eq_true.mpr fun _ _ => by cases n <;> rfl
theorem notin_row {x : List Int} (hx : x ∈ rows) : dNotIn (rowD x) (RD rows) = some (.bool false) := by
  show (if (rows.map rowD).all (shp 8) = true ∧ shp 8 (rowD x) = true then some (PyData.bool (true != anyB (rows.map rowD) (rowD x))) else none) = _
  rw [if_pos ⟨shp_RD' _, shp_row _⟩, show anyB (rows.map rowD) (rowD x) = decide (x ∈ rows) from any_rows rows x, decide_eq_true hx]
  rfl
theorem notin_nD {ks : List Nat} {k : Nat} (hk : k ∈ ks) : dNotIn (.int ((k : Nat) : Int)) (.tuple (nD ks)) = some (.bool false) := by
  show (if (nD ks).all (shp 8) = true ∧ shp 8 (.int ((k : Nat) : Int)) = true then some (PyData.bool (true != anyB (nD ks) (.int ((k : Nat) : Int)))) else none) = _
  rw [if_pos ⟨shp_nD 8 ks, rfl⟩, any_nD, decide_eq_true hk]
  rfl
theorem needless_loop (h : Sys sp gs) {x : List Int} (hx : Sol sp gs x) {l a b c mo one oth both own : Sl} : ∀ (ks : List Nat) (k0 : Sl), (∀ k ∈ ks, k ∈ needl sp gs) → ∃ k1, forGo (pName 11) (sIf (mB (m2 dNe (mF (cal 2 G_bounds_of) (mCons (mVar 1) (mCons (m2 dAdd (mCut (mLook 2) mNoP (mPt (mVar 11))) (mCut (mLook 2) (mPt (m2 dAdd (mLook 11) (mC (.int 1)))) mNoP)) mNil))) (mLook 9)))
    (sRet (mC (.bool false))) sNx) (nD ks) (Eh sp gs rows l a b c (.val (SD (bnds sp gs))) mo k0 one oth both own) w = some (.nx, Eh sp gs rows l a b c (.val (SD (bnds sp gs))) mo k1 one oth both own, w)
  | [], k0, _ => ⟨k0, rfl⟩
  | k :: ks, k0, hk => by
    obtain ⟨k1, ih⟩ := needless_loop h hx (l := l) (a := a) (b := b) (c := c) (mo := mo) (one := one) (oth := oth) (both := both) (own := own) ks (.val (.int ((k : Nat) : Int))) fun z hz => hk z (List.mem_cons_of_mem _ hz)
    refine ⟨k1, ?_⟩
    obtain ⟨m1', m2'⟩ := List.mem_filter.mp (hk k List.mem_cons_self)
    have hkl := List.mem_range.mp m1'
    have be := ev_bounds (h.rem k) (hx.rem k)
    rw [of_decide_eq_true m2'] at be
    have ne := ne_SD (bnds sp gs) (bnds sp gs)
    rw [decide_eq_true rfl] at ne
    show forGo _ _ (.int ((k : Nat) : Int) :: nD ks) _ _ = _
    rw [forGo_cons, show pName 11 (.int ((k : Nat) : Int)) (Eh sp gs rows l a b c (.val (SD (bnds sp gs))) mo k0 one oth both own) = some (Eh sp gs rows l a b c (.val (SD (bnds sp gs))) mo (.val (.int ((k : Nat) : Int))) one oth both own) from rfl, Option.bind_some]
    rw [if_no (mB_of (m2_of (mF2_of (d := SD sp) (w1 := w) rfl (ev_remg (S := Eh sp gs rows l a b c (.val (SD (bnds sp gs))) mo (.val (.int ((k : Nat) : Int))) one oth both own) h.gfew hkl rfl rfl) (cal_of (n := 2) rfl be)) (d2 := SD (bnds sp gs)) (w2 := w) rfl ne)), Option.bind_some]
    exact ih
theorem lgap_ok' (h : Sys sp gs) (R : RowsOf sp gs rows) (hr : rows ≠ []) {i o : Nat} (hi : i < sp.length) (ho : o < sp.length) : (∀ x ∈ rows, lgap sp gs i o ≤ A x o - A x i) ∧ ∃ x ∈ rows, A x o - A x i = lgap sp gs i o := by
  obtain ⟨x, hx⟩ := List.exists_mem_of_ne_nil rows hr
  obtain ⟨a, y, b, c⟩ := lgap_ok h ((R.mem x).mp hx) hi ho
  exact ⟨fun x hx => a x ((R.mem x).mp hx), y, (R.mem y).mpr b, c⟩
theorem sub_gap {l a b c bo mo k one oth both own : Sl} {p q : Nat} (hl : l = .val (LT sp gs)) (ha : a = .val (.int ((p : Nat) : Int))) (hb : b = .val (.int ((q : Nat) : Int))) (hp : p < sp.length) (hq : q < sp.length) :
    m2 dIx (m2 dIx (mLook 5) (mLook 6)) (mLook 7) (Eh sp gs rows l a b c bo mo k one oth both own) w = some (.int (lgap sp gs p q), w) := by
  subst hl; subst ha; subst hb
  exact m2_of (m2_of (d := LT sp gs) (w1 := w) rfl (d2 := .int ((p : Nat) : Int)) (w2 := w) rfl (ix_LT hp)) (d2 := .int ((q : Nat) : Int)) (w2 := w) rfl (ix_ltRow hq)
theorem eq_nil' : dEq (.list []) (.list []) = some (.bool true) := dEq_refl rfl
theorem ev_gaps_hold {n : Nat} (h : Sys sp gs) (R : RowsOf sp gs rows) (hr : rows ≠ []) (hpos : 0 < sp.length) (h4 : sp.length ≤ 4) (hw : ∀ s ∈ sp, s.2 - s.1 ≤ 6) (hg : gs.length ≤ 10) (hi : w.In n) (hn : n + 10 < 2 ^ 60) : ∃ w', G_L_gaps_hold [SD sp, GD gs, RD rows] w = some (.bool true, w') ∧ w'.In (n + 5) := by
  obtain ⟨x, hx0⟩ := List.exists_mem_of_ne_nil rows hr
  have hx := (R.mem x).mp hx0
  have f7 := h.few
  have f20 := h.gfew
  obtain ⟨a, w1, e1, la, i1⟩ := drw hi (by omega) sp.length hpos (by omega)
  obtain ⟨b, w2, e2, lb, i2⟩ := drw i1 (by omega) sp.length hpos (by omega)
  obtain ⟨c, w3, e3, lc, i3⟩ := drw i2 (by omega) sp.length hpos (by omega)
  obtain ⟨p1, w4, e4, q1, i4⟩ := ev_pick i3 (by omega) hr R.few
  obtain ⟨p2, w5, e5, q2, i5⟩ := ev_pick i4 (by omega) hr R.few
  refine ⟨w5, ?_, i5⟩
  unfold G_L_gaps_hold
  refine runS_rt [.stt, .val (SD sp), .val (GD gs), .val (RD rows), .no, .no, .no, .no, .no, .no, .no, .no, .no, .no, .no, .no] rfl ?_
  unfold m_L_gaps_hold
  rw [seq_nx (S1 := Eh sp gs rows .no .no .no .no .no .no .no .no .no .no .no) (w1 := w) (by simp only [runM, runS, env0, flD, cal, sSeq, sIf, sRet, sRetN, sDrop, sAsg, sOwn, sFrz, frz, sPar, sPar3, sParF, sParF3, mkSl, sNx, sNo, sBk, sCt, sApp, sExt, sSetIx, sAug, sFor, sWhile, m1, m2, mC, mVar, mLook, mAnd, mOr, mNot, mIte, mB, mV, mTru, dTru, mAndV, mOrV, mNotV, mNil, mCons, mTup, mLst, mF, mFS, mItems, mRng, mRng1, mRng2, mRng3, dRng1, dRng2, dRng3, mEnum, mZip, mEnumA, mZipA, mCut, mNoP, mPt, mRev, mNeg, dNeg, dRev, dCut, mLc, mYes, pName, pTup, pTupL, pNil, pCons, wipeS, dAdd, dSub, dMul, dDiv, dMod, dMulI, dAddI, dCmp, dIsN, dNotN, isNone, dLenX, dLen, seqOf, dAbs, dMax2, dMin2, dInt, dTuple, dList, dCatL, dRepL, mSt, mStLen, mStCell, sSt, sSt3, drwGet, drwSet, mCh2, mCh3, mCount, dCount, Option.bind_some, Option.map_some, Option.bind_none, Option.map_none, List.getElem?_cons_zero, List.getElem?_cons_succ, List.set_cons_zero, List.set_cons_succ, List.map_cons, List.map_nil, List.cons_append, List.nil_append, List.replicate_succ, List.replicate_zero, List.length_cons, List.length_nil, if_true, if_false, reduceIte, Bool.false_eq_true, Bool.not_true, Bool.not_false, decide_true, decide_false, SD, List.length_map]; rfl)]
  rw [seq_nx (S1 := Eh sp gs rows (.val (LT sp gs)) .no .no .no .no .no .no .no .no .no .no) (w1 := w) (sAsg_of (table1 h hx) rfl)]
  rw [seq_nx (if_no (mB_of (m2_of (d := LT sp gs) (w1 := w) rfl (table2 h R hx) (dNe_refl (shp_LT sp gs)))))]
  -- three draws
  have three : mLc (mRng1 (mCons (mC (.int 3)) mNil)) (pName 11) mYes (mFS 0 1 G_L_draw (mCons (mVar 4) mNil)) [11] (Eh sp gs rows (.val (LT sp gs)) .no .no .no .no .no .no .no .no .no .no) w = some (.list [.int ((a : Nat) : Int), .int ((b : Nat) : Int), .int ((c : Nat) : Int)], w3) := by
    refine mLc_of (w1 := w) (ds := rngD 0 1 3) rfl ?_ (by show 3 ≤ 1000000; decide)
    rw [rngD_succ, rngD_succ, rngD_succ, rngD_zero]
    rw [lcGo_cons, show pName 11 (.int 0) (wipeS (Eh sp gs rows (.val (LT sp gs)) .no .no .no .no .no .no .no .no .no .no) [11]) = some (Eh sp gs rows (.val (LT sp gs)) .no .no .no .no .no (.val (.int 0)) .no .no .no .no) from rfl, Option.bind_some, show mYes (Eh sp gs rows (.val (LT sp gs)) .no .no .no .no .no (.val (.int 0)) .no .no .no .no) w = some (true, w) from rfl, Option.bind_some, if_pos rfl, e1 (S := Eh sp gs rows (.val (LT sp gs)) .no .no .no .no .no (.val (.int 0)) .no .no .no .no) (a := mVar 4) rfl rfl, Option.bind_some]
    rw [lcGo_cons, show pName 11 (.int (0 + 1)) (wipeS (Eh sp gs rows (.val (LT sp gs)) .no .no .no .no .no .no .no .no .no .no) [11]) = some (Eh sp gs rows (.val (LT sp gs)) .no .no .no .no .no (.val (.int (0 + 1))) .no .no .no .no) from rfl, Option.bind_some, show mYes (Eh sp gs rows (.val (LT sp gs)) .no .no .no .no .no (.val (.int (0 + 1))) .no .no .no .no) w1 = some (true, w1) from rfl, Option.bind_some, if_pos rfl, e2 (S := Eh sp gs rows (.val (LT sp gs)) .no .no .no .no .no (.val (.int (0 + 1))) .no .no .no .no) (a := mVar 4) rfl rfl, Option.bind_some]
    rw [lcGo_cons, show pName 11 (.int (0 + 1 + 1)) (wipeS (Eh sp gs rows (.val (LT sp gs)) .no .no .no .no .no .no .no .no .no .no) [11]) = some (Eh sp gs rows (.val (LT sp gs)) .no .no .no .no .no (.val (.int (0 + 1 + 1))) .no .no .no .no) from rfl, Option.bind_some, show mYes (Eh sp gs rows (.val (LT sp gs)) .no .no .no .no .no (.val (.int (0 + 1 + 1))) .no .no .no .no) w2 = some (true, w2) from rfl, Option.bind_some, if_pos rfl, e3 (S := Eh sp gs rows (.val (LT sp gs)) .no .no .no .no .no (.val (.int (0 + 1 + 1))) .no .no .no .no) (a := mVar 4) rfl rfl, Option.bind_some]
    rfl
  rw [seq_nx (S1 := Eh sp gs rows (.val (LT sp gs)) (.val (.int ((a : Nat) : Int))) (.val (.int ((b : Nat) : Int))) (.val (.int ((c : Nat) : Int))) .no .no .no .no .no .no .no) (w1 := w3) (sAsg_of three rfl)]
  -- over a third find
  have tri := lgap_tri h hx la lb lc
  have slf := lgap_self h hx la
  have nlt : ¬ lgap sp gs a c < lgap sp gs a b + lgap sp gs b c := by omega
  rw [seq_nx (if_no (mOr_no (w1 := w3) (by
      have y1 := ix_LT (gs := gs) la
      have y2 := ix_LT (gs := gs) lb
      have z1 := ix_ltRow (gs := gs) (i := a) lc
      have z2 := ix_ltRow (gs := gs) (i := a) lb
      have z3 := ix_ltRow (gs := gs) (i := b) lc
      simp only [Eh, runM, runS, env0, flD, cal, sSeq, sIf, sRet, sRetN, sDrop, sAsg, sOwn, sFrz, frz, sPar, sPar3, sParF, sParF3, mkSl, sNx, sNo, sBk, sCt, sApp, sExt, sSetIx, sAug, sFor, sWhile, m1, m2, mC, mVar, mLook, mAnd, mOr, mNot, mIte, mB, mV, mTru, dTru, mAndV, mOrV, mNotV, mNil, mCons, mTup, mLst, mF, mFS, mItems, mRng, mRng1, mRng2, mRng3, dRng1, dRng2, dRng3, mEnum, mZip, mEnumA, mZipA, mCut, mNoP, mPt, mRev, mNeg, dNeg, dRev, dCut, mLc, mYes, pName, pTup, pTupL, pNil, pCons, wipeS, dAdd, dSub, dMul, dDiv, dMod, dMulI, dAddI, dCmp, dIsN, dNotN, isNone, dLenX, dLen, seqOf, dAbs, dMax2, dMin2, dInt, dTuple, dList, dCatL, dRepL, mSt, mStLen, mStCell, sSt, sSt3, drwGet, drwSet, mCh2, mCh3, mCount, dCount, Option.bind_some, Option.map_some, Option.bind_none, Option.map_none, List.getElem?_cons_zero, List.getElem?_cons_succ, List.set_cons_zero, List.set_cons_succ, List.map_cons, List.map_nil, List.cons_append, List.nil_append, List.replicate_succ, List.replicate_zero, List.length_cons, List.length_nil, if_true, if_false, reduceIte, Bool.false_eq_true, Bool.not_true, Bool.not_false, decide_true, decide_false, y1, y2, z1, z2, z3]
      rw [decide_eq_false nlt]) (by
      have y1 := ix_LT (gs := gs) la
      have z1 := ix_ltRow (gs := gs) (i := a) la
      have ne : dNe (.int 0) (.int 0) = some (.bool false) := dNe_refl rfl
      rw [slf] at z1
      simp only [Eh, runM, runS, env0, flD, cal, sSeq, sIf, sRet, sRetN, sDrop, sAsg, sOwn, sFrz, frz, sPar, sPar3, sParF, sParF3, mkSl, sNx, sNo, sBk, sCt, sApp, sExt, sSetIx, sAug, sFor, sWhile, m1, m2, mC, mVar, mLook, mAnd, mOr, mNot, mIte, mB, mV, mTru, dTru, mAndV, mOrV, mNotV, mNil, mCons, mTup, mLst, mF, mFS, mItems, mRng, mRng1, mRng2, mRng3, dRng1, dRng2, dRng3, mEnum, mZip, mEnumA, mZipA, mCut, mNoP, mPt, mRev, mNeg, dNeg, dRev, dCut, mLc, mYes, pName, pTup, pTupL, pNil, pCons, wipeS, dAdd, dSub, dMul, dDiv, dMod, dMulI, dAddI, dCmp, dIsN, dNotN, isNone, dLenX, dLen, seqOf, dAbs, dMax2, dMin2, dInt, dTuple, dList, dCatL, dRepL, mSt, mStLen, mStCell, sSt, sSt3, drwGet, drwSet, mCh2, mCh3, mCount, dCount, Option.bind_some, Option.map_some, Option.bind_none, Option.map_none, List.getElem?_cons_zero, List.getElem?_cons_succ, List.set_cons_zero, List.set_cons_succ, List.map_cons, List.map_nil, List.cons_append, List.nil_append, List.replicate_succ, List.replicate_zero, List.length_cons, List.length_nil, if_true, if_false, reduceIte, Bool.false_eq_true, Bool.not_true, Bool.not_false, decide_true, decide_false, y1, z1, ne]
      rfl)))]
  have bo := ev_bounds h hx
  rw [seq_nx (S1 := Eh sp gs rows (.val (LT sp gs)) (.val (.int ((a : Nat) : Int))) (.val (.int ((b : Nat) : Int))) (.val (.int ((c : Nat) : Int))) (.val (SD (bnds sp gs))) .no .no .no .no .no .no) (w1 := w3) (sAsg_of (mF2_of (d := SD sp) (w1 := w3) rfl (d2 := GD gs) (w2 := w3) rfl (cal_of (n := 2) rfl bo)) rfl)]
  -- one gap more
  have gap1 : ∃ mo, sIf (mB (m2 dNe (mLook 6) (mLook 7)))
    (sSeq (sIf (mOr (mB (m2 dNe (mF (cal 2 G_bounds_of) (mCons (mVar 1) (mCons (m2 dAdd (mLook 2) (mTup (mCons (mTup (mCons (mVar 6) (mCons (mVar 7) (mCons (m2 dIx (m2 dIx (mLook 5) (mLook 6)) (mLook 7)) mNil)))) mNil))) mNil))) (mLook 9))) (mB (m2 dNotIn (mF dLenX (mCons (mLook 2) mNil)) (mF (cal 2 G_needless_gaps) (mCons (mVar 1) (mCons (m2 dAdd (mLook 2) (mTup (mCons (mTup (mCons (mVar 6) (mCons (mVar 7) (mCons (m2 dIx (m2 dIx (mLook 5) (mLook 6)) (mLook 7)) mNil)))) mNil))) mNil))))))
    (sRet (mC (.bool false))) sNx)
    (sSeq (sAsg (m2 dAdd (mLook 2) (mTup (mCons (mTup (mCons (mVar 6) (mCons (mVar 7) (mCons (m2 dAdd (m2 dIx (m2 dIx (mLook 5) (mLook 6)) (mLook 7)) (mC (.int 1))) mNil)))) mNil))) (pName 10))
    (sIf (mNot (mTru (mF (cal 3 G_L_told_holds) (mCons (mVar 1) (mCons (mVar 10) (mCons (mLc (mItems (mLook 3)) (pName 15) (mB (m2 dGt (m2 dSub (m2 dIx (mLook 15) (mLook 7)) (m2 dIx (mLook 15) (mLook 6))) (m2 dIx (m2 dIx (mLook 5) (mLook 6)) (mLook 7)))) (mVar 15) [15]) mNil))))))
    (sRet (mC (.bool false))) sNx))) sNx (Eh sp gs rows (.val (LT sp gs)) (.val (.int ((a : Nat) : Int))) (.val (.int ((b : Nat) : Int))) (.val (.int ((c : Nat) : Int))) (.val (SD (bnds sp gs))) .no .no .no .no .no .no) w3 =
      some (.nx, Eh sp gs rows (.val (LT sp gs)) (.val (.int ((a : Nat) : Int))) (.val (.int ((b : Nat) : Int))) (.val (.int ((c : Nat) : Int))) (.val (SD (bnds sp gs))) mo .no .no .no .no .no, w3) := by
    have ne := dNe_int ((a : Nat) : Int) ((b : Nat) : Int)
    by_cases hab : a = b
    · refine ⟨.no, if_no ?_⟩
      rw [decide_eq_true (by omega)] at ne
      exact mB_of (m2_of (d := .int ((a : Nat) : Int)) (w1 := w3) rfl (d2 := .int ((b : Nat) : Int)) (w2 := w3) rfl ne)
    · rw [decide_eq_false (by omega)] at ne
      rw [if_yes (mB_of (b := true) (m2_of (d := .int ((a : Nat) : Int)) (w1 := w3) rfl (d2 := .int ((b : Nat) : Int)) (w2 := w3) rfl ne))]
      have bd := lgap_bound h hx la lb
      have h1 : Sys sp (gs ++ [(a, b, lgap sp gs a b)]) := sys_app h hg ⟨la, lb, hab⟩ (by simp only; omega) (by simp only; omega)
      have h2 : Sys sp (gs ++ [(a, b, lgap sp gs a b + 1)]) := sys_app h hg ⟨la, lb, hab⟩ (by simp only; omega) (by simp only; omega)
      have same : ∀ x, Sol sp (gs ++ [(a, b, lgap sp gs a b)]) x ↔ Sol sp gs x := fun x => by
        rw [sol_app]
        refine ⟨fun q => q.1, fun q => ⟨q, fun g hg => ?_⟩⟩
        rw [List.mem_singleton.mp hg]
        have := (lgap_ok h q la lb).1 x q
        simp only
        omega
      have bs := bnds_same h h1 hx same
      have b1 := ev_bounds h1 ((same x).mpr hx)
      rw [bs] at b1
      have nb := ne_SD (bnds sp gs) (bnds sp gs)
      rw [decide_eq_true rfl] at nb
      have nl := ev_needless h1 ((same x).mpr hx)
      have inn : gs.length ∈ needl sp (gs ++ [(a, b, lgap sp gs a b)]) := List.mem_filter.mpr ⟨List.mem_range.mpr (by simp), by rw [remg_last, bs]; exact decide_eq_true rfl⟩
      have ag := ad_gap (sp := sp) (gs := gs) (rows := rows) (w := w3) (l := .val (LT sp gs)) (c := .val (.int ((c : Nat) : Int))) (bo := .val (SD (bnds sp gs))) (mo := .no) (k := .no) (one := .no) (oth := .no) (both := .no) (own := .no) (p := a) (q := b) (z := lgap sp gs a b) f20 rfl rfl (sub_gap rfl rfl rfl la lb)
      have ag2 := ad_gap (sp := sp) (gs := gs) (rows := rows) (w := w3) (l := .val (LT sp gs)) (c := .val (.int ((c : Nat) : Int))) (bo := .val (SD (bnds sp gs))) (mo := .no) (k := .no) (one := .no) (oth := .no) (both := .no) (own := .no) (p := a) (q := b) (z := lgap sp gs a b + 1) (e := m2 dAdd (m2 dIx (m2 dIx (mLook 5) (mLook 6)) (mLook 7)) (mC (.int 1))) f20 rfl rfl (m2_of (g := dAdd) (sub_gap rfl rfl rfl la lb) (d2 := .int 1) (w2 := w3) rfl rfl)
      refine ⟨.val (GD (gs ++ [(a, b, lgap sp gs a b + 1)])), ?_⟩
      rw [seq_nx (if_no (mOr_no (mB_of (m2_of (mF2_of (d := SD sp) (w1 := w3) rfl ag (cal_of (n := 2) rfl b1)) (d2 := SD (bnds sp gs)) (w2 := w3) rfl nb)) (mB_of (m2_of (d := .int ((gs.length : Nat) : Int)) (w1 := w3) (mF1_of (d := GD gs) (w1 := w3) rfl (by simp only [dLenX, dLen, GD, seqOf, List.length_map, Option.map_some])) (mF2_of (d := SD sp) (w1 := w3) rfl ag (cal_of (n := 2) rfl nl)) (notin_nD inn)))))]
      rw [seq_nx (sAsg_of ag2 rfl)]
      have fl := lc_asF (p := pName 15) (t := (mB (m2 dGt (m2 dSub (m2 dIx (mLook 15) (mLook 7)) (m2 dIx (mLook 15) (mLook 6))) (m2 dIx (m2 dIx (mLook 5) (mLook 6)) (mLook 7))))) (e := mVar 15) (S := Eh sp gs rows (.val (LT sp gs)) (.val (.int ((a : Nat) : Int))) (.val (.int ((b : Nat) : Int))) (.val (.int ((c : Nat) : Int))) (.val (SD (bnds sp gs))) (.val (GD (gs ++ [(a, b, lgap sp gs a b + 1)]))) .no .no .no .no .no) (w := w3) (g := rowD) (f := rowD) (c := fun r => decide (A r b - A r a > lgap sp gs a b)) (ks := rows) fun r hr' => by
        have rl := ((R.mem r).mp hr').len
        refine ⟨Eh sp gs rows (.val (LT sp gs)) (.val (.int ((a : Nat) : Int))) (.val (.int ((b : Nat) : Int))) (.val (.int ((c : Nat) : Int))) (.val (SD (bnds sp gs))) (.val (GD (gs ++ [(a, b, lgap sp gs a b + 1)]))) .no .no .no .no (.val (rowD r)), rfl, ?_, fun _ => rfl⟩
        exact mB_of (m2_of (m2_of (g := dSub) (m2_of (d := rowD r) (w1 := w3) rfl (d2 := .int ((b : Nat) : Int)) (w2 := w3) rfl (ix_r (by omega))) (m2_of (d := rowD r) (w1 := w3) rfl (d2 := .int ((a : Nat) : Int)) (w2 := w3) rfl (ix_r (by omega))) rfl) (sub_gap rfl rfl rfl la lb) rfl)
      have ff := List.length_filter_le (fun r => decide (A r b - A r a > lgap sp gs a b)) rows
      have rf := R.few
      have R2 : RowsOf sp (gs ++ [(a, b, lgap sp gs a b + 1)]) (rows.filter fun r => decide (A r b - A r a > lgap sp gs a b)) := rowsOf_small h2 (List.nodup_iff_pairwise_ne.mpr (List.Pairwise.filter _ (List.nodup_iff_pairwise_ne.mp R.nd))) (fun x => by
        rw [List.mem_filter, R.mem, sol_app]
        refine and_congr_right fun _ => ⟨fun q g hg => ?_, fun q => ?_⟩
        · rw [List.mem_singleton.mp hg]
          have := of_decide_eq_true q
          simp only
          omega
        · have := q _ (List.mem_singleton.mpr rfl)
          simp only at this
          exact decide_eq_true (by omega)) (by omega) h4 hw
      have td := ev_told h2 R2
      rw [if_no (mNot_of (b := true) (mTru_of (mF3_of (d := SD sp) (w1 := w3) rfl (d2 := GD (gs ++ [(a, b, lgap sp gs a b + 1)])) (w2 := w3) rfl (mLc_of (w1 := w3) (ds := rows.map rowD) (by simp only [runM, runS, env0, flD, cal, sSeq, sIf, sRet, sRetN, sDrop, sAsg, sOwn, sFrz, frz, sPar, sPar3, sParF, sParF3, mkSl, sNx, sNo, sBk, sCt, sApp, sExt, sSetIx, sAug, sFor, sWhile, m1, m2, mC, mVar, mLook, mAnd, mOr, mNot, mIte, mB, mV, mTru, dTru, mAndV, mOrV, mNotV, mNil, mCons, mTup, mLst, mF, mFS, mItems, mRng, mRng1, mRng2, mRng3, dRng1, dRng2, dRng3, mEnum, mZip, mEnumA, mZipA, mCut, mNoP, mPt, mRev, mNeg, dNeg, dRev, dCut, mLc, mYes, pName, pTup, pTupL, pNil, pCons, wipeS, dAdd, dSub, dMul, dDiv, dMod, dMulI, dAddI, dCmp, dIsN, dNotN, isNone, dLenX, dLen, seqOf, dAbs, dMax2, dMin2, dInt, dTuple, dList, dCatL, dRepL, mSt, mStLen, mStCell, sSt, sSt3, drwGet, drwSet, mCh2, mCh3, mCount, dCount, Option.bind_some, Option.map_some, Option.bind_none, Option.map_none, List.getElem?_cons_zero, List.getElem?_cons_succ, List.set_cons_zero, List.set_cons_succ, List.map_cons, List.map_nil, List.cons_append, List.nil_append, List.replicate_succ, List.replicate_zero, List.length_cons, List.length_nil, if_true, if_false, reduceIte, Bool.false_eq_true, Bool.not_true, Bool.not_false, decide_true, decide_false, Eh, RD]) fl (by rw [List.length_map]; exact lb_of (by omega))) (cal_of (n := 3) rfl td)) rfl))]
      rfl
  obtain ⟨mo, gap1⟩ := gap1
  rw [seq_nx gap1]
  -- needless gaps
  have nl := ev_needless h hx
  obtain ⟨k1, lp⟩ := needless_loop (rows := rows) (w := w3) h hx (l := .val (LT sp gs)) (a := .val (.int ((a : Nat) : Int))) (b := .val (.int ((b : Nat) : Int))) (c := .val (.int ((c : Nat) : Int))) (mo := mo) (one := .no) (oth := .no) (both := .no) (own := .no) (needl sp gs) .no fun _ z => z
  have ni : mItems (mF (cal 2 G_needless_gaps) (mCons (mVar 1) (mCons (mVar 2) mNil))) (Eh sp gs rows (.val (LT sp gs)) (.val (.int ((a : Nat) : Int))) (.val (.int ((b : Nat) : Int))) (.val (.int ((c : Nat) : Int))) (.val (SD (bnds sp gs))) mo .no .no .no .no .no) w3 = some (nD (needl sp gs), w3) := by
    unfold mItems
    rw [mF2_of (d := SD sp) (w1 := w3) rfl (d2 := GD gs) (w2 := w3) rfl (cal_of (n := 2) rfl nl)]
    rfl
  rw [seq_nx (sFor_of ni lp)]
  -- two rows
  have pk : ∀ {S : SEnv} {u u' : Drw} {z : List Int}, S[0]? = some .stt → S[3]? = some (.val (RD rows)) → G_L_pick [RD rows] u = some (rowD z, u') → mFS 0 1 G_L_pick (mCons (mVar 3) mNil) S u = some (rowD z, u') := fun {S u u' z} h0 h3 hp => mFS_of h0 (d := RD rows) (w1 := u) (by unfold mVar; rw [h3]) hp
  rw [seq_nx (S1 := Eh sp gs rows (.val (LT sp gs)) (.val (.int ((a : Nat) : Int))) (.val (.int ((b : Nat) : Int))) (.val (.int ((c : Nat) : Int))) (.val (SD (bnds sp gs))) mo k1 (.val (rowD p1)) (.val (rowD p2)) .no .no) (w1 := w5) (sAsg_of (mTup2_of (pk rfl rfl e4) (pk rfl rfl e5)) rfl)]
  have s1 := (R.mem p1).mp q1
  have s2 := (R.mem p2).mp q2
  have mns := s1.min s2 h
  have mxs := s1.max s2 h
  have col : ∀ {g : PyData → List PyData → PyData} {f : Int → Int → Int}, (∀ u v : Int, dBest g [.list [.int u, .int v]] = some (.int (f u v))) → mF dTuple (mCons (mLc (mRng1 (mCons (mVar 4) mNil)) (pName 11) mYes (mF (dBest g) (mCons (mLst (mCons (m2 dIx (mLook 12) (mLook 11)) (mCons (m2 dIx (mLook 13) (mLook 11)) mNil))) mNil)) [11]) mNil)
      (Eh sp gs rows (.val (LT sp gs)) (.val (.int ((a : Nat) : Int))) (.val (.int ((b : Nat) : Int))) (.val (.int ((c : Nat) : Int))) (.val (SD (bnds sp gs))) mo k1 (.val (rowD p1)) (.val (rowD p2)) .no .no) w5 = some (rowD ((List.range sp.length).map fun k => f (A p1 k) (A p2 k)), w5) := fun {g f} hgf => by
    refine mF1_of (mLc_of (w1 := w5) (rg_many f7) (lc_as (f := fun k => .int (f (A p1 k) (A p2 k))) fun k hk => ⟨Eh sp gs rows (.val (LT sp gs)) (.val (.int ((a : Nat) : Int))) (.val (.int ((b : Nat) : Int))) (.val (.int ((c : Nat) : Int))) (.val (SD (bnds sp gs))) mo (.val (.int ((k : Nat) : Int))) (.val (rowD p1)) (.val (rowD p2)) .no .no, rfl, ?_⟩) (by simp; exact lb_of (by omega))) ?_
    · have hk := List.mem_range.mp hk
      have r1 := s1.len
      have r2 := s2.len
      exact mF1_of (mLst2_of (m2_of (d := rowD p1) (w1 := w5) rfl (d2 := .int ((k : Nat) : Int)) (w2 := w5) rfl (ix_r (by omega))) (m2_of (d := rowD p2) (w1 := w5) rfl (d2 := .int ((k : Nat) : Int)) (w2 := w5) rfl (ix_r (by omega)))) (hgf _ _)
    · show some (PyData.tuple _) = _
      unfold rowD
      rw [List.map_map]
      rfl
  rw [seq_nx (S1 := Eh sp gs rows (.val (LT sp gs)) (.val (.int ((a : Nat) : Int))) (.val (.int ((b : Nat) : Int))) (.val (.int ((c : Nat) : Int))) (.val (SD (bnds sp gs))) mo k1 (.val (rowD p1)) (.val (rowD p2)) (.val (.list [rowD ((List.range sp.length).map fun k => min (A p1 k) (A p2 k)), rowD ((List.range sp.length).map fun k => max (A p1 k) (A p2 k))])) .no) (w1 := w5) (sAsg_of (mLst2_of (col (fun u v => best_min u [v])) (col (fun u v => best_max u [v]))) rfl)]
  have lcf := lc_asF (p := pName 15) (t := (mOr (mB (m2 dNotIn (mLook 15) (mLook 3))) (mB (m2 dNotN (mF (cal 3 G_accept_years) (mCons (mVar 1) (mCons (mVar 2) (mCons (mVar 15) mNil)))) (mC .none))))) (e := mVar 15) (S := Eh sp gs rows (.val (LT sp gs)) (.val (.int ((a : Nat) : Int))) (.val (.int ((b : Nat) : Int))) (.val (.int ((c : Nat) : Int))) (.val (SD (bnds sp gs))) mo k1 (.val (rowD p1)) (.val (rowD p2)) (.val (.list [rowD ((List.range sp.length).map fun k => min (A p1 k) (A p2 k)), rowD ((List.range sp.length).map fun k => max (A p1 k) (A p2 k))])) .no) (w := w5) (g := rowD) (f := rowD) (c := fun _ => false)
    (ks := [(List.range sp.length).map fun k => min (A p1 k) (A p2 k), (List.range sp.length).map fun k => max (A p1 k) (A p2 k)]) fun r hr' => by
      have rs : Sol sp gs r := by
        rcases List.mem_cons.mp hr' with z | z
        · rw [z]; exact mns
        · rw [List.mem_singleton.mp z]; exact mxs
      have ay := ev_accept_years h rs
      refine ⟨Eh sp gs rows (.val (LT sp gs)) (.val (.int ((a : Nat) : Int))) (.val (.int ((b : Nat) : Int))) (.val (.int ((c : Nat) : Int))) (.val (SD (bnds sp gs))) mo k1 (.val (rowD p1)) (.val (rowD p2)) (.val (.list [rowD ((List.range sp.length).map fun k => min (A p1 k) (A p2 k)), rowD ((List.range sp.length).map fun k => max (A p1 k) (A p2 k))])) (.val (rowD r)), rfl, ?_, fun z => by cases z⟩
      exact mOr_no (mB_of (m2_of (d := rowD r) (w1 := w5) rfl (d2 := RD rows) (w2 := w5) rfl (notin_row ((R.mem r).mpr rs)))) (mB_of (m2_of (mF3_of (d := SD sp) (w1 := w5) rfl (d2 := GD gs) (w2 := w5) rfl (d3 := rowD r) (w3 := w5) rfl (cal_of (n := 3) rfl ay)) (d2 := .none) (w2 := w5) rfl rfl))
  rw [List.filter_eq_nil_iff.mpr (by simp)] at lcf
  rw [sRet_of (m2_of (mLc_of (vs := [15]) (mi := mItems (mLook 14)) (w1 := w5) rfl lcf (by show 0 ≤ 1000000; omega)) (mLst0 _ _) eq_nil')]
  exact ⟨_, rfl⟩
end
end K64

set_option Elab.async false
set_option linter.all false
set_option maxRecDepth 100000
set_option maxHeartbeats 4000000
set_option exponentiation.threshold 10000
namespace K64
open PySem PySem.Spec PyProof.Rows L2 Mini
def Run (m : MS) (S : SEnv) (w : Drw) (Q : Fl → SEnv → Drw → Prop) : Prop := ∃ fl S' w', m S w = some (fl, S', w') ∧ Q fl S' w'
section
variable {S S1 : SEnv} {w w1 : Drw} {Q : Fl → SEnv → Drw → Prop} {a b : MS} {e : ME} {p : MG} {t : MT} {d : PyData}
theorem run_seq (h : a S w = some (.nx, S1, w1)) (k : Run b S1 w1 Q) : Run (sSeq a b) S w Q := by
  obtain ⟨fl, S', w', h1, h2⟩ := k
  exact ⟨fl, S', w', by rw [seq_nx h]; exact h1, h2⟩
theorem run_asg (h : e S w = some (d, w1)) (hp : p d S = some S1) (k : Run b S1 w1 Q) : Run (sSeq (sAsg e p) b) S w Q := run_seq (sAsg_of h hp) k
theorem run_no (h : t S w = some (false, w1)) (k : Run b S w1 Q) : Run (sSeq (sIf t a sNx) b) S w Q := run_seq (if_no h) k
theorem run_yes {r : ME} (h : t S w = some (true, w1)) (hr : r S w1 = some (d, w1)) (q : Q (.rt d) S w1) : Run (sSeq (sIf t (sRet r) sNx) b) S w Q :=
  ⟨.rt d, S, w1, seq_rt (by rw [if_yes h]; exact sRet_of hr), q⟩
theorem run_last (h : t S w = some (false, w1)) (q : Q .nx S w1) : Run (sIf t a sNx) S w Q := ⟨.nx, S, w1, if_no h, q⟩
end
theorem mFS_at {G : List PyData → Drw → Option (PyData × Drw)} {i n : Nat} {a : MA} {S : SEnv} {w w1 w2 : Drw} {ds : List PyData} {e : PyData} (hS : S[i]? = some .stt) (h : a S w = some (ds, w1)) (hl : ds.length = n) (hg : G ds w1 = some (e, w2)) : mFS i n G a S w = some (e, w2) := by
  unfold mFS
  rw [hS]
  simp only [h, Option.bind_some, if_pos hl]
  exact hg
theorem drwI {w : Drw} {n : Nat} (h : w.In n) (hn : n < 2 ^ 60) (many : Nat) (h1 : 0 < many) (h2 : many ≤ 1000000) : ∃ (r : Nat) (w' : Drw), (∀ {S : SEnv} {a : ME} {i : Nat}, S[i]? = some .stt → a S w = some (.int ((many : Nat) : Int), w) → mFS i 1 G_L_draw (mCons a mNil) S w = some (.int ((r : Nat) : Int), w')) ∧ r < many ∧ w'.In (n + 1) := by
  obtain ⟨r, w', e, h3, h4⟩ := ev_draw h hn many h1 h2
  exact ⟨r, w', fun hS ha => mFS_of hS ha e, h3, h4⟩
theorem sys_of {sp : List Span} {gs : List Gap} {many : Nat} (hl : sp.length = many) (h4 : many ≤ 4) (ho : ∀ s ∈ sp, SpanOk s) (hg : gs.length ≤ 4) (hf : ∀ g ∈ gs, GapFine many g) : Sys sp gs := by
  subst hl
  exact ⟨by omega, fun s hs => by have := ho s hs; unfold SpanOk at this; omega, by omega, fun g h => (hf g h).1, fun g h => by have := (hf g h).2; omega⟩
theorem rows_all {sp : List Span} {gs : List Gap} (h : Sys sp gs) (h4 : sp.length ≤ 4) (hw : ∀ s ∈ sp, s.2 - s.1 ≤ 6) : RowsOf sp gs ((allRows sp).filter (suitsB gs)) := by
  have al := allRows_len sp fun s hs => ⟨(h.span s hs).2.1, hw s hs⟩
  have p7 : 7 ^ sp.length ≤ 7 ^ 4 := Nat.pow_le_pow_right (by decide) h4
  have fl := List.length_filter_le (suitsB gs) (allRows sp)
  exact rowsOf_small h (List.nodup_iff_pairwise_ne.mpr (List.Pairwise.filter _ (List.nodup_iff_pairwise_ne.mp (allRows_ok sp).1))) (fun x => by rw [List.mem_filter, (allRows_ok sp).2, suitsB_iff, sol_iff h]) (by omega) h4 hw
theorem told_at {S : SEnv} {w : Drw} {sp : List Span} {gs : List Gap} {rows : List (List Int)} {a b c : ME} (h : Sys sp gs) (R : RowsOf sp gs rows) (ha : a S w = some (SD sp, w)) (hb : b S w = some (GD gs, w)) (hc : c S w = some (RD rows, w)) : mNot (mTru (mF (cal 3 G_L_told_holds) (mCons a (mCons b (mCons c mNil))))) S w = some (false, w) :=
  mNot_of (b := true) (mTru_of (mF3_of ha hb hc (cal_of (n := 3) rfl (ev_told h R))) rfl)
/-- [tuple([f of own for own in row]) for row in rows] -/
theorem rows_lc {S : SEnv} {w : Drw} {rows : List (List Int)} {f : Int → Int} {i j : Nat} {e : ME} (hi : i < S.length) (hj : j < S.length) (hij : i ≠ j) (h6 : S[6]? = some (.val (RD rows))) (few : rows.length ≤ 100000) (hl : ∀ r ∈ rows, r.length ≤ 100)
    (he : ∀ (r : List Int) (y : Int), e ((((S.set i .no).set i (.val (rowD r))).set j .no).set j (.val (.int y))) w = some (.int (f y), w)) :
    mLc (mItems (mLook 6)) (pName i) mYes (mF dTuple (mCons (mLc (mItems (mLook i)) (pName j) mYes e [j]) mNil)) [i] S w = some (RD (rows.map fun r => r.map f), w) := by
  have q := mLc_of (mi := mItems (mLook 6)) (p := pName i) (t := mYes) (e := mF dTuple (mCons (mLc (mItems (mLook i)) (pName j) mYes e [j]) mNil)) (vs := [i]) (S := S) (w := w) (w1 := w) (ds := rows.map rowD) (by simp only [runM, runS, env0, flD, cal, sSeq, sIf, sRet, sRetN, sDrop, sAsg, sOwn, sFrz, frz, sPar, sPar3, sParF, sParF3, mkSl, sNx, sNo, sBk, sCt, sApp, sExt, sSetIx, sAug, sFor, sWhile, m1, m2, mC, mVar, mLook, mAnd, mOr, mNot, mIte, mB, mV, mTru, dTru, mAndV, mOrV, mNotV, mNil, mCons, mTup, mLst, mF, mFS, mItems, mRng, mRng1, mRng2, mRng3, dRng1, dRng2, dRng3, mEnum, mZip, mEnumA, mZipA, mCut, mNoP, mPt, mRev, mNeg, dNeg, dRev, dCut, mLc, mYes, pName, pTup, pTupL, pNil, pCons, wipeS, dAdd, dSub, dMul, dDiv, dMod, dMulI, dAddI, dCmp, dIsN, dNotN, isNone, dLenX, dLen, seqOf, dAbs, dMax2, dMin2, dInt, dTuple, dList, dCatL, dRepL, mSt, mStLen, mStCell, sSt, sSt3, drwGet, drwSet, mCh2, mCh3, mCount, dCount, Option.bind_some, Option.map_some, Option.bind_none, Option.map_none, List.getElem?_cons_zero, List.getElem?_cons_succ, List.set_cons_zero, List.set_cons_succ, List.map_cons, List.map_nil, List.cons_append, List.nil_append, List.replicate_succ, List.replicate_zero, List.length_cons, List.length_nil, if_true, if_false, reduceIte, Bool.false_eq_true, Bool.not_true, Bool.not_false, decide_true, decide_false, h6, RD])
    (lc_as (g := rowD) (f := fun r => rowD (r.map f)) (ks := rows) fun r hr => ⟨(S.set i .no).set i (.val (rowD r)), rfl, by
      have gi : ((S.set i .no).set i (.val (rowD r)))[i]? = some (.val (rowD r)) := List.getElem?_set_self (by simpa using hi)
      have inner := mLc_of (mi := mItems (mLook i)) (p := pName j) (t := mYes) (e := e) (vs := [j]) (S := (S.set i .no).set i (.val (rowD r))) (w := w) (w1 := w) (ds := r.map .int) (by
        simp only [rowD] at gi
        simp only [runM, runS, env0, flD, cal, sSeq, sIf, sRet, sRetN, sDrop, sAsg, sOwn, sFrz, frz, sPar, sPar3, sParF, sParF3, mkSl, sNx, sNo, sBk, sCt, sApp, sExt, sSetIx, sAug, sFor, sWhile, m1, m2, mC, mVar, mLook, mAnd, mOr, mNot, mIte, mB, mV, mTru, dTru, mAndV, mOrV, mNotV, mNil, mCons, mTup, mLst, mF, mFS, mItems, mRng, mRng1, mRng2, mRng3, dRng1, dRng2, dRng3, mEnum, mZip, mEnumA, mZipA, mCut, mNoP, mPt, mRev, mNeg, dNeg, dRev, dCut, mLc, mYes, pName, pTup, pTupL, pNil, pCons, wipeS, dAdd, dSub, dMul, dDiv, dMod, dMulI, dAddI, dCmp, dIsN, dNotN, isNone, dLenX, dLen, seqOf, dAbs, dMax2, dMin2, dInt, dTuple, dList, dCatL, dRepL, mSt, mStLen, mStCell, sSt, sSt3, drwGet, drwSet, mCh2, mCh3, mCount, dCount, Option.bind_some, Option.map_some, Option.bind_none, Option.map_none, List.getElem?_cons_zero, List.getElem?_cons_succ, List.set_cons_zero, List.set_cons_succ, List.map_cons, List.map_nil, List.cons_append, List.nil_append, List.replicate_succ, List.replicate_zero, List.length_cons, List.length_nil, if_true, if_false, reduceIte, Bool.false_eq_true, Bool.not_true, Bool.not_false, decide_true, decide_false, gi, rowD]) (lc_as (g := .int) (f := fun y => .int (f y)) (ks := r) fun y hy => ⟨(((S.set i .no).set i (.val (rowD r))).set j .no).set j (.val (.int y)), rfl, he r y⟩) (by rw [List.length_map]; have := hl r hr; exact lb_of (by omega))
      exact mF1_of inner (by show some (PyData.tuple _) = _; unfold rowD; rw [List.map_map]; rfl)⟩) (by rw [List.length_map]; exact lb_of (by omega))
  rw [q]
  unfold RD
  rw [List.map_map]
  rfl
theorem gps_lc {S : SEnv} {w : Drw} {gs : List Gap} {f : Gap → Gap} {m : ME} {e : ME} (h18 : 21 < S.length) (hg : gs.length ≤ 20) (hm : m S w = some (GD gs, w)) (he : ∀ g ∈ gs, e ((((wipeS S [18, 19, 21]).set 18 (.val (.int ((g.1 : Nat) : Int)))).set 19 (.val (.int ((g.2.1 : Nat) : Int)))).set 21 (.val (.int g.2.2))) w = some (gD (f g), w)) :
    mF dTuple (mCons (mLc (mItems m) (pTup (pCons (pName 18) (pCons (pName 19) (pCons (pName 21) pNil)))) mYes e [18, 19, 21]) mNil) S w = some (GD (gs.map f), w) := by
  refine mF1_of (mLc_of (w1 := w) (ds := gs.map gD) (by unfold mItems; rw [hm]; rfl) (lc_as (g := gD) (f := fun g => gD (f g)) (ks := gs) fun g h => ⟨_, rfl, he g h⟩) (by rw [List.length_map]; exact lb_of (by omega))) ?_
  show some (PyData.tuple _) = _
  unfold GD
  rw [List.map_map]
  rfl
theorem sps_lc {S : SEnv} {w : Drw} {sp : List Span} {f : Span → Span} {e : ME} (hl : sp.length ≤ 100) (h4 : S[4]? = some (.val (SD sp))) (he : ∀ s ∈ sp, e (((wipeS S [18, 19]).set 18 (.val (.int s.1))).set 19 (.val (.int s.2))) w = some (sD (f s), w)) :
    mF dTuple (mCons (mLc (mItems (mLook 4)) (pTup (pCons (pName 18) (pCons (pName 19) pNil))) mYes e [18, 19]) mNil) S w = some (SD (sp.map f), w) := by
  refine mF1_of (mLc_of (w1 := w) (ds := sp.map sD) (by simp only [runM, runS, env0, flD, cal, sSeq, sIf, sRet, sRetN, sDrop, sAsg, sOwn, sFrz, frz, sPar, sPar3, sParF, sParF3, mkSl, sNx, sNo, sBk, sCt, sApp, sExt, sSetIx, sAug, sFor, sWhile, m1, m2, mC, mVar, mLook, mAnd, mOr, mNot, mIte, mB, mV, mTru, dTru, mAndV, mOrV, mNotV, mNil, mCons, mTup, mLst, mF, mFS, mItems, mRng, mRng1, mRng2, mRng3, dRng1, dRng2, dRng3, mEnum, mZip, mEnumA, mZipA, mCut, mNoP, mPt, mRev, mNeg, dNeg, dRev, dCut, mLc, mYes, pName, pTup, pTupL, pNil, pCons, wipeS, dAdd, dSub, dMul, dDiv, dMod, dMulI, dAddI, dCmp, dIsN, dNotN, isNone, dLenX, dLen, seqOf, dAbs, dMax2, dMin2, dInt, dTuple, dList, dCatL, dRepL, mSt, mStLen, mStCell, sSt, sSt3, drwGet, drwSet, mCh2, mCh3, mCount, dCount, Option.bind_some, Option.map_some, Option.bind_none, Option.map_none, List.getElem?_cons_zero, List.getElem?_cons_succ, List.set_cons_zero, List.set_cons_succ, List.map_cons, List.map_nil, List.cons_append, List.nil_append, List.replicate_succ, List.replicate_zero, List.length_cons, List.length_nil, if_true, if_false, reduceIte, Bool.false_eq_true, Bool.not_true, Bool.not_false, decide_true, decide_false, h4, SD]) (lc_as (g := sD) (f := fun s => sD (f s)) (ks := sp) fun s h => ⟨_, rfl, he s h⟩) (by rw [List.length_map]; exact lb_of (by omega))) ?_
  show some (PyData.tuple _) = _
  unfold SD
  rw [List.map_map]
  rfl
theorem idx_cast (names : List Nat) (k : Nat) : (names.map fun i => ((i : Nat) : Int)).idxOf ((k : Nat) : Int) = names.idxOf k := by
  induction names with
  | nil => rfl
  | cons a names ih =>
    have e : (((a : Nat) : Int) == ((k : Nat) : Int)) = (a == k) := by
      rw [Bool.eq_iff_iff, beq_iff_eq, beq_iff_eq]; omega
    rw [List.map_cons, List.idxOf_cons, List.idxOf_cons, ih, e]
theorem lidx {names : List Nat} {k : Nat} (h : k ∈ names) : dLidx (.list (nD names)) (.int ((k : Nat) : Int)) = some (.int ((names.idxOf k : Nat) : Int)) := by
  have e : nD names = (names.map fun i => ((i : Nat) : Int)).map .int := by unfold nD; rw [List.map_map]; rfl
  show (intsOf (nD names)).bind (fun ns => if ((k : Nat) : Int) ∈ ns then some (PyData.int ((ns.idxOf ((k : Nat) : Int) : Nat) : Int)) else none) = _
  rw [e, intsOf_map, Option.bind_some, if_pos (List.mem_map.mpr ⟨k, h, rfl⟩), idx_cast]
theorem ix_nD {names : List Nat} {k : Nat} (h : k < names.length) : dIx (.list (nD names)) (.int ((k : Nat) : Int)) = some (.int ((names[k] : Nat) : Int)) := by
  rw [ix_nat (by rw [nD_len]; exact h)]
  simp [nD]
def IsL (S : SEnv) : Prop := ∃ x2 x3 x4 x5 x6 x7 x8 x9 x10 x11 x12 x13 x14 x15 x16 x17 x18 x19 x20 x21 : Sl, S = [.no, .stt, x2, x3, x4, x5, x6, x7, x8, x9, x10, x11, x12, x13, x14, x15, x16, x17, x18, x19, x20, x21]
theorem join_loop {more : List (List Int)} {s2 s3 s4 s5 s6 s7 s8 s9 s10 s11 s12 s13 s16 s18 s19 s20 s21 : Sl} {w : Drw} (hm : more.length ≤ 100000) (hml : ∀ r ∈ more, r.length ≤ 100) : ∀ (rows acc : List (List Int)) (x17 : Sl), (∀ r ∈ rows, r.length ≤ 100) → acc.length + rows.length * more.length ≤ 100000 → ∃ y17,
    forGo (pName 17) (sExt 15 (mLc (mItems (mLook 14)) (pName 18) mYes (m2 dAdd (mLook 17) (mLook 18)) [18])) (rows.map rowD) [.no, .stt, s2, s3, s4, s5, s6, s7, s8, s9, s10, s11, s12, s13, .val (RD more), .own (RD acc), s16, x17, s18, s19, s20, s21] w =
      some (.nx, [.no, .stt, s2, s3, s4, s5, s6, s7, s8, s9, s10, s11, s12, s13, .val (RD more), .own (RD (acc ++ joinR rows more)), s16, y17, s18, s19, s20, s21], w)
  | [], acc, x17, _, _ => ⟨x17, by simp [joinR, forGo]⟩
  | r :: rows, acc, x17, hr, hl => by
    have hl' : acc.length + (rows.length * more.length + more.length) ≤ 100000 := by rw [List.length_cons, Nat.add_mul, Nat.one_mul] at hl; exact hl
    obtain ⟨y17, ih⟩ := join_loop (s2 := s2) (s3 := s3) (s4 := s4) (s5 := s5) (s6 := s6) (s7 := s7) (s8 := s8) (s9 := s9) (s10 := s10) (s11 := s11) (s12 := s12) (s13 := s13) (s16 := s16) (s18 := s18) (s19 := s19) (s20 := s20) (s21 := s21) (w := w) hm hml rows (acc ++ more.map fun y => r ++ y) (.val (rowD r)) (fun x hx => hr x (List.mem_cons_of_mem _ hx)) (by rw [List.length_append, List.length_map]; omega)
    refine ⟨y17, ?_⟩
    have rl := hr r List.mem_cons_self
    have lc := mLc_of (mi := mItems (mLook 14)) (p := pName 18) (t := mYes) (e := m2 dAdd (mLook 17) (mLook 18)) (vs := [18]) (S := [.no, .stt, s2, s3, s4, s5, s6, s7, s8, s9, s10, s11, s12, s13, .val (RD more), .own (RD acc), s16, .val (rowD r), s18, s19, s20, s21]) (w := w) (w1 := w) (ds := more.map rowD) (by simp only [runM, runS, env0, flD, cal, sSeq, sIf, sRet, sRetN, sDrop, sAsg, sOwn, sFrz, frz, sPar, sPar3, sParF, sParF3, mkSl, sNx, sNo, sBk, sCt, sApp, sExt, sSetIx, sAug, sFor, sWhile, m1, m2, mC, mVar, mLook, mAnd, mOr, mNot, mIte, mB, mV, mTru, dTru, mAndV, mOrV, mNotV, mNil, mCons, mTup, mLst, mF, mFS, mItems, mRng, mRng1, mRng2, mRng3, dRng1, dRng2, dRng3, mEnum, mZip, mEnumA, mZipA, mCut, mNoP, mPt, mRev, mNeg, dNeg, dRev, dCut, mLc, mYes, pName, pTup, pTupL, pNil, pCons, wipeS, dAdd, dSub, dMul, dDiv, dMod, dMulI, dAddI, dCmp, dIsN, dNotN, isNone, dLenX, dLen, seqOf, dAbs, dMax2, dMin2, dInt, dTuple, dList, dCatL, dRepL, mSt, mStLen, mStCell, sSt, sSt3, drwGet, drwSet, mCh2, mCh3, mCount, dCount, Option.bind_some, Option.map_some, Option.bind_none, Option.map_none, List.getElem?_cons_zero, List.getElem?_cons_succ, List.set_cons_zero, List.set_cons_succ, List.map_cons, List.map_nil, List.cons_append, List.nil_append, List.replicate_succ, List.replicate_zero, List.length_cons, List.length_nil, if_true, if_false, reduceIte, Bool.false_eq_true, Bool.not_true, Bool.not_false, decide_true, decide_false, RD])
      (lc_as (g := rowD) (f := fun y => rowD (r ++ y)) (ks := more) fun y hy => ⟨[.no, .stt, s2, s3, s4, s5, s6, s7, s8, s9, s10, s11, s12, s13, .val (RD more), .own (RD acc), s16, .val (rowD r), .val (rowD y), s19, s20, s21], rfl, by
        have yl := hml y hy
        refine m2_of (d := rowD r) (w1 := w) rfl (d2 := rowD y) (w2 := w) rfl ?_
        unfold rowD
        rw [dAdd_tup (by simp; omega), List.map_append]⟩) (by rw [List.length_map]; exact lb_of (by omega))
    have le : (acc.map rowD).length + (more.map fun y => rowD (r ++ y)).length ≤ LB := by rw [List.length_map, List.length_map]; exact lb_of (by omega)
    rw [List.map_cons, forGo_cons, show pName 17 (rowD r) [Sl.no, .stt, s2, s3, s4, s5, s6, s7, s8, s9, s10, s11, s12, s13, .val (RD more), .own (RD acc), s16, x17, s18, s19, s20, s21] = some [.no, .stt, s2, s3, s4, s5, s6, s7, s8, s9, s10, s11, s12, s13, .val (RD more), .own (RD acc), s16, .val (rowD r), s18, s19, s20, s21] from rfl, Option.bind_some]
    have se : sExt 15 (mLc (mItems (mLook 14)) (pName 18) mYes (m2 dAdd (mLook 17) (mLook 18)) [18]) [.no, .stt, s2, s3, s4, s5, s6, s7, s8, s9, s10, s11, s12, s13, .val (RD more), .own (RD acc), s16, .val (rowD r), s18, s19, s20, s21] w =
        some (.nx, [.no, .stt, s2, s3, s4, s5, s6, s7, s8, s9, s10, s11, s12, s13, .val (RD more), .own (RD (acc ++ more.map fun y => r ++ y)), s16, .val (rowD r), s18, s19, s20, s21], w) := by
      unfold sExt
      show (mLc _ _ _ _ _ _ _).bind _ = _
      rw [lc, Option.bind_some]
      show (if (acc.map rowD).length + (more.map fun y => rowD (r ++ y)).length ≤ LB then _ else _) = _
      rw [if_pos le]
      have : acc.map rowD ++ (more.map fun y => rowD (r ++ y)) = (acc ++ more.map fun y => r ++ y).map rowD := by rw [List.map_append, List.map_map]; rfl
      rw [this]
      rfl
    rw [se, Option.bind_some]
    have eg : acc ++ joinR (r :: rows) more = (acc ++ more.map fun y => r ++ y) ++ joinR rows more := by unfold joinR; rw [List.flatMap_cons, List.append_assoc]
    rw [eg]
    exact ih
end K64

set_option Elab.async false
set_option linter.all false
set_option maxRecDepth 100000
set_option maxHeartbeats 4000000
set_option exponentiation.threshold 10000
namespace K64
open PySem PySem.Spec PyProof.Rows L2 Mini
def mBody : MS := (sSeq (sAsg (m2 dAdd (mC (.int 1)) (mFS 1 1 G_L_draw (mCons (mC (.int 4)) mNil))) (pName 3))
    (sSeq (sAsg (mFS 1 1 G_L_finds (mCons (mVar 3) mNil)) (pTup (pCons (pName 4) (pCons (pName 5) pNil))))
    (sSeq (sAsg (mF (cal 2 G_L_all_years) (mCons (mVar 4) (mCons (mVar 5) mNil))) (pName 6))
    (sSeq (sIf (mOr (mNot (mTru (mF (cal 3 G_L_told_holds) (mCons (mVar 4) (mCons (mVar 5) (mCons (mVar 6) mNil)))))) (mAnd (mTru (mLook 6)) (mNot (mTru (mFS 1 3 G_L_gaps_hold (mCons (mVar 4) (mCons (mVar 5) (mCons (mVar 6) mNil))))))))
    (sRet (mC (.bool false))) sNx)
    (sSeq (sAsg (m2 dSub (mFS 1 1 G_L_draw (mCons (mC (.int 900)) mNil)) (mC (.int 450))) (pName 7))
    (sSeq (sAsg (mF dTuple (mCons (mLc (mItems (mLook 4)) (pTup (pCons (pName 18) (pCons (pName 19) pNil))) mYes (mTup (mCons (m2 dAdd (mLook 18) (mLook 7)) (mCons (m2 dAdd (mLook 19) (mLook 7)) mNil))) [18, 19]) mNil)) (pName 8))
    (sSeq (sIf (mNot (mTru (mF (cal 3 G_L_told_holds) (mCons (mVar 8) (mCons (mVar 5) (mCons (mLc (mItems (mLook 6)) (pName 20) mYes (mF dTuple (mCons (mLc (mItems (mLook 20)) (pName 17) mYes (m2 dAdd (mLook 17) (mLook 7)) [17]) mNil)) [20]) mNil))))))
    (sRet (mC (.bool false))) sNx)
    (sSeq (sPar 9 10 (mCons (mF dTuple (mCons (mLc (mItems (mLook 4)) (pTup (pCons (pName 18) (pCons (pName 19) pNil))) mYes (mTup (mCons (m2 dSub (mC (.int 0)) (mLook 19)) (mCons (m2 dSub (mC (.int 0)) (mLook 18)) mNil))) [18, 19]) mNil)) (mCons (mF dTuple (mCons (mLc (mItems (mLook 5)) (pTup (pCons (pName 18) (pCons (pName 19) (pCons (pName 21) pNil)))) mYes (mTup (mCons (mVar 19) (mCons (mVar 18) (mCons (mVar 21) mNil)))) [18, 19, 21]) mNil)) mNil)))
    (sSeq (sIf (mNot (mTru (mF (cal 3 G_L_told_holds) (mCons (mVar 9) (mCons (mVar 10) (mCons (mLc (mItems (mLook 6)) (pName 20) mYes (mF dTuple (mCons (mLc (mItems (mLook 20)) (pName 17) mYes (m2 dSub (mC (.int 0)) (mLook 17)) [17]) mNil)) [20]) mNil))))))
    (sRet (mC (.bool false))) sNx)
    (sSeq (sAsg (mFS 1 1 G_L_order (mCons (m1 dLstRg (mLook 3)) mNil)) (pName 11))
    (sSeq (sAsg (mLc (mRng1 (mCons (mVar 3) mNil)) (pName 17) mYes (m2 dLidx (mLook 11) (mLook 17)) [17]) (pName 12))
    (sSeq (sIf (mNot (mTru (mF (cal 3 G_L_told_holds) (mCons (mF dTuple (mCons (mLc (mItems (mLook 11)) (pName 17) mYes (m2 dIx (mLook 4) (mLook 17)) [17]) mNil)) (mCons (mF dTuple (mCons (mLc (mItems (mLook 5)) (pTup (pCons (pName 18) (pCons (pName 19) (pCons (pName 21) pNil)))) mYes (mTup (mCons (m2 dIx (mLook 12) (mLook 18)) (mCons (m2 dIx (mLook 12) (mLook 19)) (mCons (mVar 21) mNil)))) [18, 19, 21]) mNil)) (mCons (mLc (mItems (mLook 6)) (pName 20) mYes (mF dTuple (mCons (mLc (mItems (mLook 11)) (pName 17) mYes (m2 dIx (mLook 20) (mLook 17)) [17]) mNil)) [20]) mNil))))))
    (sRet (mC (.bool false))) sNx)
    (sSeq (sAsg (mFS 1 1 G_L_finds (mCons (m2 dAdd (mC (.int 1)) (mFS 1 1 G_L_draw (mCons (mC (.int 2)) mNil))) mNil)) (pName 13))
    (sSeq (sAsg (mF (cal 2 G_L_all_years) (mCons (m2 dIx (mLook 13) (mC (.int 0))) (mCons (m2 dIx (mLook 13) (mC (.int 1))) mNil))) (pName 14))
    (sSeq (sIf (mB (m2 dGt (m2 dMul (mF dLenX (mCons (mLook 6) mNil)) (mF dLenX (mCons (mLook 14) mNil))) (mC (.int 400))))
    (sRet (mC (.bool true))) sNx)
    (sSeq (sParF true false 15 16 (mLst mNil) (m2 dAdd (mLook 5) (mF dTuple (mCons (mLc (mItems (m2 dIx (mLook 13) (mC (.int 1)))) (pTup (pCons (pName 18) (pCons (pName 19) (pCons (pName 21) pNil)))) mYes (mTup (mCons (m2 dAdd (mLook 18) (mLook 3)) (mCons (m2 dAdd (mLook 19) (mLook 3)) (mCons (mVar 21) mNil)))) [18, 19, 21]) mNil))))
    (sSeq (sFor (mItems (mVar 6)) (pName 17)
    (sExt 15 (mLc (mItems (mLook 14)) (pName 18) mYes (m2 dAdd (mLook 17) (mLook 18)) [18])))
    (sFrz 15 (sIf (mNot (mTru (mF (cal 3 G_L_told_holds) (mCons (m2 dAdd (mLook 4) (m2 dIx (mLook 13) (mC (.int 0)))) (mCons (mVar 16) (mCons (mVar 15) mNil))))))
    (sRet (mC (.bool false))) sNx)))))))))))))))))))
theorem m1_of {g : PyData → Option PyData} {a : ME} {S : SEnv} {w w1 : Drw} {d e : PyData} (h : a S w = some (d, w1)) (hg : g d = some e) : m1 g a S w = some (e, w1) := by
  unfold m1; rw [h, Option.bind_some, hg]; rfl
theorem mTup3_of {a b c : ME} {S : SEnv} {w w1 w2 w3 : Drw} {d d2 d3 : PyData} (h : a S w = some (d, w1)) (h2 : b S w1 = some (d2, w2)) (h3 : c S w2 = some (d3, w3)) : mTup (mCons a (mCons b (mCons c mNil))) S w = some (.tuple [d, d2, d3], w3) := by
  have l3 : ([d, d2, d3] : List PyData).length ≤ LB := by show 3 ≤ 1000000; decide
  unfold mTup
  simp only [mCons, mNil, h, h2, h3, Option.bind_some, Option.map_some, if_pos l3]
theorem sPar_of {i j : Nat} {a b : ME} {S : SEnv} {w w1 w2 : Drw} {d e : PyData} (h : a S w = some (d, w1)) (h2 : b S w1 = some (e, w2)) : sPar i j (mCons a (mCons b mNil)) S w = some (.nx, (S.set i (.val d)).set j (.val e), w2) := by
  unfold sPar
  simp only [mCons, mNil, h, h2, Option.bind_some, Option.map_some]
theorem sParF_of {f1 f2 : Bool} {i j : Nat} {a b : ME} {S : SEnv} {w w1 w2 : Drw} {d e : PyData} (h : a S w = some (d, w1)) (h2 : b S w1 = some (e, w2)) : sParF f1 f2 i j a b S w = some (.nx, (S.set i (mkSl f1 d)).set j (mkSl f2 e), w2) := by
  unfold sParF
  simp only [h, h2, Option.bind_some]
theorem names_sp {S : SEnv} {w : Drw} {sp : List Span} {names : List Nat} (hl : 21 < S.length) (h4 : S[4]? = some (.val (SD sp))) (h11 : S[11]? = some (.val (.list (nD names)))) (hn : ∀ k ∈ names, k < sp.length) (hnl : names.length ≤ 100) :
    mF dTuple (mCons (mLc (mItems (mLook 11)) (pName 17) mYes (m2 dIx (mLook 4) (mLook 17)) [17]) mNil) S w = some (SD (rns names sp), w) := by
  refine mF1_of (d := .list (names.map fun k => sD (slo sp k, shi sp k))) (mLc_of (w1 := w) (ds := nD names) (by simp only [runM, runS, env0, flD, cal, sSeq, sIf, sRet, sRetN, sDrop, sAsg, sOwn, sFrz, frz, sPar, sPar3, sParF, sParF3, mkSl, sNx, sNo, sBk, sCt, sApp, sExt, sSetIx, sAug, sFor, sWhile, m1, m2, mC, mVar, mLook, mAnd, mOr, mNot, mIte, mB, mV, mTru, dTru, mAndV, mOrV, mNotV, mNil, mCons, mTup, mLst, mF, mFS, mItems, mRng, mRng1, mRng2, mRng3, dRng1, dRng2, dRng3, mEnum, mZip, mEnumA, mZipA, mCut, mNoP, mPt, mRev, mNeg, dNeg, dRev, dCut, mLc, mYes, pName, pTup, pTupL, pNil, pCons, wipeS, dAdd, dSub, dMul, dDiv, dMod, dMulI, dAddI, dCmp, dIsN, dNotN, isNone, dLenX, dLen, seqOf, dAbs, dMax2, dMin2, dInt, dTuple, dList, dCatL, dRepL, mSt, mStLen, mStCell, sSt, sSt3, drwGet, drwSet, mCh2, mCh3, mCount, dCount, Option.bind_some, Option.map_some, Option.bind_none, Option.map_none, List.getElem?_cons_zero, List.getElem?_cons_succ, List.set_cons_zero, List.set_cons_succ, List.map_cons, List.map_nil, List.cons_append, List.nil_append, List.replicate_succ, List.replicate_zero, List.length_cons, List.length_nil, if_true, if_false, reduceIte, Bool.false_eq_true, Bool.not_true, Bool.not_false, decide_true, decide_false, h11]) (lc_as (g := fun k : Nat => .int ((k : Nat) : Int)) (f := fun k => sD (slo sp k, shi sp k)) fun k hk => ⟨(S.set 17 .no).set 17 (.val (.int ((k : Nat) : Int))), rfl, ?_⟩) (by rw [List.length_map]; exact lb_of (by omega))) ?_
  · have g17 : ((S.set 17 .no).set 17 (.val (.int ((k : Nat) : Int))))[17]? = some (.val (.int ((k : Nat) : Int))) := List.getElem?_set_self (by simp; omega)
    have g4 : ((S.set 17 .no).set 17 (.val (.int ((k : Nat) : Int))))[4]? = some (.val (SD sp)) := by rw [List.getElem?_set_ne (by decide), List.getElem?_set_ne (by decide)]; exact h4
    exact m2_of (d := SD sp) (w1 := w) (by unfold mLook; rw [g4]) (d2 := .int ((k : Nat) : Int)) (w2 := w) (by unfold mLook; rw [g17]) (ix_s (hn k hk))
  · show some (PyData.tuple _) = _
    unfold SD rns
    rw [List.map_map]
    rfl
theorem names_rows {S : SEnv} {w : Drw} {rows : List (List Int)} {names : List Nat} (hl : 21 < S.length) (h6 : S[6]? = some (.val (RD rows))) (h11 : S[11]? = some (.val (.list (nD names)))) (hn : ∀ r ∈ rows, ∀ k ∈ names, k < r.length) (hnl : names.length ≤ 100) (few : rows.length ≤ 100000) :
    mLc (mItems (mLook 6)) (pName 20) mYes (mF dTuple (mCons (mLc (mItems (mLook 11)) (pName 17) mYes (m2 dIx (mLook 20) (mLook 17)) [17]) mNil)) [20] S w = some (RD (rows.map (rnx names)), w) := by
  have q := mLc_of (mi := mItems (mLook 6)) (p := pName 20) (t := mYes) (e := mF dTuple (mCons (mLc (mItems (mLook 11)) (pName 17) mYes (m2 dIx (mLook 20) (mLook 17)) [17]) mNil)) (vs := [20]) (S := S) (w := w) (w1 := w) (ds := rows.map rowD) (by simp only [runM, runS, env0, flD, cal, sSeq, sIf, sRet, sRetN, sDrop, sAsg, sOwn, sFrz, frz, sPar, sPar3, sParF, sParF3, mkSl, sNx, sNo, sBk, sCt, sApp, sExt, sSetIx, sAug, sFor, sWhile, m1, m2, mC, mVar, mLook, mAnd, mOr, mNot, mIte, mB, mV, mTru, dTru, mAndV, mOrV, mNotV, mNil, mCons, mTup, mLst, mF, mFS, mItems, mRng, mRng1, mRng2, mRng3, dRng1, dRng2, dRng3, mEnum, mZip, mEnumA, mZipA, mCut, mNoP, mPt, mRev, mNeg, dNeg, dRev, dCut, mLc, mYes, pName, pTup, pTupL, pNil, pCons, wipeS, dAdd, dSub, dMul, dDiv, dMod, dMulI, dAddI, dCmp, dIsN, dNotN, isNone, dLenX, dLen, seqOf, dAbs, dMax2, dMin2, dInt, dTuple, dList, dCatL, dRepL, mSt, mStLen, mStCell, sSt, sSt3, drwGet, drwSet, mCh2, mCh3, mCount, dCount, Option.bind_some, Option.map_some, Option.bind_none, Option.map_none, List.getElem?_cons_zero, List.getElem?_cons_succ, List.set_cons_zero, List.set_cons_succ, List.map_cons, List.map_nil, List.cons_append, List.nil_append, List.replicate_succ, List.replicate_zero, List.length_cons, List.length_nil, if_true, if_false, reduceIte, Bool.false_eq_true, Bool.not_true, Bool.not_false, decide_true, decide_false, h6, RD])
    (lc_as (g := rowD) (f := fun r => rowD (rnx names r)) (ks := rows) fun r hr => ⟨(S.set 20 .no).set 20 (.val (rowD r)), rfl, by
      have g11 : ((S.set 20 .no).set 20 (.val (rowD r)))[11]? = some (.val (.list (nD names))) := by rw [List.getElem?_set_ne (by decide), List.getElem?_set_ne (by decide)]; exact h11
      have g20 : ((S.set 20 .no).set 20 (.val (rowD r)))[20]? = some (.val (rowD r)) := List.getElem?_set_self (by simp; omega)
      refine mF1_of (d := .list (names.map fun k => .int (A r k))) (mLc_of (w1 := w) (ds := nD names) (by simp only [runM, runS, env0, flD, cal, sSeq, sIf, sRet, sRetN, sDrop, sAsg, sOwn, sFrz, frz, sPar, sPar3, sParF, sParF3, mkSl, sNx, sNo, sBk, sCt, sApp, sExt, sSetIx, sAug, sFor, sWhile, m1, m2, mC, mVar, mLook, mAnd, mOr, mNot, mIte, mB, mV, mTru, dTru, mAndV, mOrV, mNotV, mNil, mCons, mTup, mLst, mF, mFS, mItems, mRng, mRng1, mRng2, mRng3, dRng1, dRng2, dRng3, mEnum, mZip, mEnumA, mZipA, mCut, mNoP, mPt, mRev, mNeg, dNeg, dRev, dCut, mLc, mYes, pName, pTup, pTupL, pNil, pCons, wipeS, dAdd, dSub, dMul, dDiv, dMod, dMulI, dAddI, dCmp, dIsN, dNotN, isNone, dLenX, dLen, seqOf, dAbs, dMax2, dMin2, dInt, dTuple, dList, dCatL, dRepL, mSt, mStLen, mStCell, sSt, sSt3, drwGet, drwSet, mCh2, mCh3, mCount, dCount, Option.bind_some, Option.map_some, Option.bind_none, Option.map_none, List.getElem?_cons_zero, List.getElem?_cons_succ, List.set_cons_zero, List.set_cons_succ, List.map_cons, List.map_nil, List.cons_append, List.nil_append, List.replicate_succ, List.replicate_zero, List.length_cons, List.length_nil, if_true, if_false, reduceIte, Bool.false_eq_true, Bool.not_true, Bool.not_false, decide_true, decide_false, g11]) (lc_as (g := fun k : Nat => .int ((k : Nat) : Int)) (f := fun k => .int (A r k)) fun k hk => ⟨((((S.set 20 .no).set 20 (.val (rowD r))).set 17 .no).set 17 (.val (.int ((k : Nat) : Int)))), rfl, ?_⟩) (by rw [List.length_map]; exact lb_of (by omega))) ?_
      · have i17 : (((((S.set 20 .no).set 20 (.val (rowD r))).set 17 .no).set 17 (.val (.int ((k : Nat) : Int)))))[17]? = some (.val (.int ((k : Nat) : Int))) := List.getElem?_set_self (by simp; omega)
        have i20 : (((((S.set 20 .no).set 20 (.val (rowD r))).set 17 .no).set 17 (.val (.int ((k : Nat) : Int)))))[20]? = some (.val (rowD r)) := by rw [List.getElem?_set_ne (by decide), List.getElem?_set_ne (by decide)]; exact g20
        exact m2_of (d := rowD r) (w1 := w) (by unfold mLook; rw [i20]) (d2 := .int ((k : Nat) : Int)) (w2 := w) (by unfold mLook; rw [i17]) (ix_r (hn r hr k hk))
      · show some (PyData.tuple _) = _
        unfold rowD rnx
        rw [List.map_map]
        rfl⟩) (by rw [List.length_map]; exact lb_of (by omega))
  rw [q]
  unfold RD
  rw [List.map_map]
  rfl
/-- how a turn ends -/
def EndQ (n : Nat) (fl : Fl) (S : SEnv) (w : Drw) : Prop := fl = .rt (.bool true) ∨ (fl = .nx ∧ IsL S ∧ ∃ n', w.In n' ∧ n' ≤ n + 300)
theorem body_ok {S : SEnv} {w : Drw} {n : Nat} (hS : IsL S) (hw : w.In n) (hn : n + 1000 < 2 ^ 60) : Run mBody S w (EndQ n) := by
  obtain ⟨x2, x3, x4, x5, x6, x7, x8, x9, x10, x11, x12, x13, x14, x15, x16, x17, x18, x19, x20, x21, rfl⟩ := hS
  obtain ⟨m0, w1, e1, b1, i1⟩ := drwI hw (by omega) 4 (by decide) (by decide)
  have em : (1 : Int) + ((m0 : Nat) : Int) = ((1 + m0 : Nat) : Int) := by omega
  obtain ⟨sp, gs, w2, n2, e2, sl, so, gl, gf, i2, ln2⟩ := ev_finds (many := 1 + m0) i1 (by omega) (by omega) (by omega)
  have hs := sys_of sl (by omega) so gl gf
  have h4 : sp.length ≤ 4 := by omega
  have hwd : ∀ s ∈ sp, s.2 - s.1 ≤ 6 := fun s h => (so s h).2.2.2
  have R := rows_all hs h4 hwd
  have ay := ev_all_years hs h4 hwd
  generalize hrows : (allRows sp).filter (suitsB gs) = rows at R ay
  have rlen : ∀ r ∈ rows, r.length ≤ 100 := fun r hr => by
    have := ((R.mem r).mp hr).len
    omega
  unfold mBody
  refine run_asg (d := .int ((1 + m0 : Nat) : Int)) (w1 := w1) (m2_of (d := .int 1) (w1 := w) rfl (e1 rfl rfl) (by show some (PyData.int (1 + ((m0 : Nat) : Int))) = _; rw [em])) rfl ?_
  refine run_asg (d := .tuple [SD sp, GD gs]) (w1 := w2) (mFS_of rfl (d := .int ((1 + m0 : Nat) : Int)) (w1 := w1) rfl e2) rfl ?_
  refine run_asg (d := RD rows) (w1 := w2) (mF2_of (d := SD sp) (w1 := w2) rfl (d2 := GD gs) (w2 := w2) rfl (cal_of (n := 2) rfl ay)) rfl ?_
  -- told, gaps
  obtain ⟨w3, n3, c3, i3, ln3⟩ : ∃ w3 n3, (mOr (mNot (mTru (mF (cal 3 G_L_told_holds) (mCons (mVar 4) (mCons (mVar 5) (mCons (mVar 6) mNil)))))) (mAnd (mTru (mLook 6)) (mNot (mTru (mFS 1 3 G_L_gaps_hold (mCons (mVar 4) (mCons (mVar 5) (mCons (mVar 6) mNil)))))))) [.no, .stt, x2, .val (.int ((1 + m0 : Nat) : Int)), .val (SD sp), .val (GD gs), .val (RD rows), x7, x8, x9, x10, x11, x12, x13, x14, x15, x16, x17, x18, x19, x20, x21] w2 = some (false, w3) ∧ w3.In n3 ∧ n3 ≤ n + 80 := by
    have t1 := told_at (S := [.no, .stt, x2, .val (.int ((1 + m0 : Nat) : Int)), .val (SD sp), .val (GD gs), .val (RD rows), x7, x8, x9, x10, x11, x12, x13, x14, x15, x16, x17, x18, x19, x20, x21]) (w := w2) (a := mVar 4) (b := mVar 5) (c := mVar 6) hs R rfl rfl rfl
    cases hr : rows with
    | nil =>
      rw [hr] at t1
      exact ⟨w2, n2, mOr_no t1 (mAnd_no (mTru_of (d := RD []) (w1 := w2) rfl rfl)), i2, by omega⟩
    | cons r0 rs =>
      have hne : rows ≠ [] := by rw [hr]; exact List.cons_ne_nil _ _
      obtain ⟨w3, e3, i3⟩ := ev_gaps_hold hs R hne (by omega) h4 hwd (by omega) i2 (by omega)
      rw [hr] at t1 e3
      refine ⟨w3, _, mOr_no t1 (mAnd_yes (w1 := w2) (mTru_of (d := RD (r0 :: rs)) (w1 := w2) rfl rfl) (mNot_of (b := true) (mTru_of (mFS_at (ds := [SD sp, GD gs, RD (r0 :: rs)]) (w1 := w2) rfl rfl rfl e3) rfl))), i3, by omega⟩
  refine run_no c3 ?_
  -- moved
  obtain ⟨f0, w4, e4, b4, i4⟩ := drwI i3 (by omega) 900 (by decide) (by decide)
  have hb : ∀ s ∈ sp, -1000 ≤ s.1 + (((f0 : Nat) : Int) - 450) ∧ s.2 + (((f0 : Nat) : Int) - 450) ≤ 1000 := fun s h => by
    have := so s h
    unfold SpanOk at this
    omega
  have Rm := rows_mv hs R hb h4 hwd
  refine run_asg (d := .int (((f0 : Nat) : Int) - 450)) (w1 := w4) (m2_of (g := dSub) (e4 rfl rfl) (d2 := .int 450) (w2 := w4) rfl rfl) rfl ?_
  have lt2 : (2 : Nat) ≤ LB := by decide
  have lt3 : (3 : Nat) ≤ LB := by decide
  refine run_asg (d := SD (mvs (((f0 : Nat) : Int) - 450) sp)) (w1 := w4) (sps_lc (f := fun s => (s.1 + (((f0 : Nat) : Int) - 450), s.2 + (((f0 : Nat) : Int) - 450))) (by omega) rfl fun s _ => mTup2_of (m2_of (g := dAdd) (d := .int s.1) (w1 := w4) rfl (d2 := .int (((f0 : Nat) : Int) - 450)) (w2 := w4) rfl rfl) (m2_of (g := dAdd) (d := .int s.2) (w1 := w4) rfl (d2 := .int (((f0 : Nat) : Int) - 450)) (w2 := w4) rfl rfl)) rfl ?_
  refine run_no (told_at (sys_mv hs hb) Rm rfl rfl (rows_lc (f := fun y => y + (((f0 : Nat) : Int) - 450)) (by simp) (by simp) (by decide) rfl R.few rlen fun r y => m2_of (g := dAdd) (d := .int y) (w1 := w4) rfl (d2 := .int (((f0 : Nat) : Int) - 450)) (w2 := w4) rfl rfl)) ?_
  -- turned round
  have Rb := rows_back hs R h4 hwd
  refine run_seq (sPar_of (d := SD (nsp sp)) (e := GD (tgs gs)) (w1 := w4) (w2 := w4) (sps_lc (f := fun s => (-s.2, -s.1)) (by omega) rfl fun s _ => mTup2_of (m2_of (g := dSub) (d := .int 0) (w1 := w4) rfl (d2 := .int s.2) (w2 := w4) rfl (by show some (PyData.int (0 - s.2)) = _; rw [Int.zero_sub])) (m2_of (g := dSub) (d := .int 0) (w1 := w4) rfl (d2 := .int s.1) (w2 := w4) rfl (by show some (PyData.int (0 - s.1)) = _; rw [Int.zero_sub])))
    (gps_lc (f := fun g => (g.2.1, g.1, g.2.2)) (m := mLook 5) (by simp) (by omega) rfl fun g _ => mTup3_of (d := .int ((g.2.1 : Nat) : Int)) (d2 := .int ((g.1 : Nat) : Int)) (d3 := .int g.2.2) (w1 := w4) (w2 := w4) (w3 := w4) rfl rfl rfl)) ?_
  refine run_no (told_at (a := mVar 9) (b := mVar 10) hs.neg Rb rfl rfl (rows_lc (f := fun y => -y) (by simp) (by simp) (by decide) rfl R.few rlen fun r y => m2_of (g := dSub) (d := .int 0) (w1 := w4) rfl (d2 := .int y) (w2 := w4) rfl (by show some (PyData.int (0 - y)) = _; rw [Int.zero_sub]))) ?_
  -- numbered anew
  have hrng : (List.range (1 + m0)).length = 1 + m0 := List.length_range
  obtain ⟨names, w5, e5, pm, i5⟩ := ev_order (xs := List.range (1 + m0)) i4 (by rw [hrng]; omega) (by rw [hrng]; omega)
  rw [hrng] at i5
  have N : Names sp.length names := names_of (by rw [sl]; exact pm)
  have nl := N.len
  have Rn := rows_rn N hs R h4 hwd
  have rgl : dLstRg (.int ((1 + m0 : Nat) : Int)) = some (.list (nD (List.range (1 + m0)))) := by
    show (if -1000000 ≤ ((1 + m0 : Nat) : Int) ∧ ((1 + m0 : Nat) : Int) ≤ 1000000 then some (PyData.list (rngD 0 1 ((1 + m0 : Nat) : Int).toNat)) else none) = _
    rw [if_pos (by omega), Int.toNat_natCast, rngD_0]
    rfl
  refine run_asg (d := .list (nD names)) (w1 := w5) (mFS_of rfl (d := .list (nD (List.range (1 + m0)))) (w1 := w4) (m1_of (d := .int ((1 + m0 : Nat) : Int)) rfl rgl) e5) rfl ?_
  have smm := smallI_of (i := ((1 + m0 : Nat) : Int)) (by omega) (by omega)
  refine run_asg (d := .list (nD ((List.range (1 + m0)).map names.idxOf))) (w1 := w5) (mLc_of (w1 := w5) (ds := rngD 0 1 (1 + m0)) (by
      show (mRng _ _ _ _) = _
      unfold mRng mCons mNil
      show ((some ([PyData.int ((1 + m0 : Nat) : Int)], w5)).bind _) = _
      rw [Option.bind_some]
      simp only [dRng1, if_pos smm, Int.toNat_natCast, Option.map_some]) (rs := nD ((List.range (1 + m0)).map names.idxOf)) (by
      rw [rngD_0]
      have q := fun S h => lc_as (p := pName 17) (e := m2 dLidx (mLook 11) (mLook 17)) (S := S) (w := w5) (g := fun k : Nat => .int ((k : Nat) : Int)) (f := fun k => .int ((names.idxOf k : Nat) : Int)) (ks := List.range (1 + m0)) h
      rw [q]
      · unfold nD; rw [List.map_map]; rfl
      · intro k hk
        have hk := List.mem_range.mp hk
        exact ⟨_, rfl, m2_of (d := .list (nD names)) (w1 := w5) rfl (d2 := .int ((k : Nat) : Int)) (w2 := w5) rfl (lidx ((N.mem k).mpr (by omega)))⟩) (by rw [nD_len, List.length_map, hrng]; exact lb_of (by omega))) rfl ?_
  have ixp : ∀ k, k < sp.length → dIx (.list (nD ((List.range (1 + m0)).map names.idxOf))) (.int ((k : Nat) : Int)) = some (.int ((names.idxOf k : Nat) : Int)) := fun k hk => by
    rw [ix_nD (by rw [List.length_map, hrng]; omega)]
    simp
  show Run _ [.no, .stt, x2, .val (.int ((1 + m0 : Nat) : Int)), .val (SD sp), .val (GD gs), .val (RD rows), .val (.int (((f0 : Nat) : Int) - 450)), .val (SD (mvs (((f0 : Nat) : Int) - 450) sp)), .val (SD (nsp sp)), .val (GD (tgs gs)), .val (.list (nD names)), .val (.list (nD ((List.range (1 + m0)).map names.idxOf))), x13, x14, x15, x16, x17, x18, x19, x20, x21] w5 (EndQ n)
  have q1 := names_sp (S := [.no, .stt, x2, .val (.int ((1 + m0 : Nat) : Int)), .val (SD sp), .val (GD gs), .val (RD rows), .val (.int (((f0 : Nat) : Int) - 450)), .val (SD (mvs (((f0 : Nat) : Int) - 450) sp)), .val (SD (nsp sp)), .val (GD (tgs gs)), .val (.list (nD names)), .val (.list (nD ((List.range (1 + m0)).map names.idxOf))), x13, x14, x15, x16, x17, x18, x19, x20, x21]) (w := w5) (sp := sp) (names := names) (by simp) rfl rfl (fun k hk => (N.mem k).mp hk) (by omega)
  -- MARK1
  have q2 := gps_lc (S := [.no, .stt, x2, .val (.int ((1 + m0 : Nat) : Int)), .val (SD sp), .val (GD gs), .val (RD rows), .val (.int (((f0 : Nat) : Int) - 450)), .val (SD (mvs (((f0 : Nat) : Int) - 450) sp)), .val (SD (nsp sp)), .val (GD (tgs gs)), .val (.list (nD names)), .val (.list (nD ((List.range (1 + m0)).map names.idxOf))), x13, x14, x15, x16, x17, x18, x19, x20, x21]) (w := w5) (gs := gs) (f := fun g => (names.idxOf g.1, names.idxOf g.2.1, g.2.2)) (m := mLook 5) (e := mTup (mCons (m2 dIx (mLook 12) (mLook 18)) (mCons (m2 dIx (mLook 12) (mLook 19)) (mCons (mVar 21) mNil)))) (by simp) (by omega) rfl fun g hg => by
      obtain ⟨a1, a2, _⟩ := hs.gap g hg
      exact mTup3_of (d := .int ((names.idxOf g.1 : Nat) : Int)) (d2 := .int ((names.idxOf g.2.1 : Nat) : Int)) (d3 := .int g.2.2) (w1 := w5) (w2 := w5) (w3 := w5) (m2_of (d := .list (nD ((List.range (1 + m0)).map names.idxOf))) (w1 := w5) rfl (d2 := .int ((g.1 : Nat) : Int)) (w2 := w5) rfl (ixp _ a1)) (m2_of (d := .list (nD ((List.range (1 + m0)).map names.idxOf))) (w1 := w5) rfl (d2 := .int ((g.2.1 : Nat) : Int)) (w2 := w5) rfl (ixp _ a2)) rfl
  -- MARK2
  have q3 := names_rows (S := [.no, .stt, x2, .val (.int ((1 + m0 : Nat) : Int)), .val (SD sp), .val (GD gs), .val (RD rows), .val (.int (((f0 : Nat) : Int) - 450)), .val (SD (mvs (((f0 : Nat) : Int) - 450) sp)), .val (SD (nsp sp)), .val (GD (tgs gs)), .val (.list (nD names)), .val (.list (nD ((List.range (1 + m0)).map names.idxOf))), x13, x14, x15, x16, x17, x18, x19, x20, x21]) (w := w5) (names := names) (rows := rows) (by simp) rfl rfl (fun r hr k hk => by rw [((R.mem r).mp hr).len]; exact (N.mem k).mp hk) (by omega) R.few
  -- MARK3
  refine run_no (told_at (sys_rn N hs) Rn q1 q2 q3) ?_
  -- beside each other
  obtain ⟨m1', w6, e6, b6, i6⟩ := drwI i5 (by omega) 2 (by decide) (by decide)
  have em1 : (1 : Int) + ((m1' : Nat) : Int) = ((1 + m1' : Nat) : Int) := by omega
  obtain ⟨sp2, gs2, w7, n7, e7, sl2, so2, gl2, gf2, i7, ln7⟩ := ev_finds (many := 1 + m1') i6 (by omega) (by omega) (by omega)
  have hs2 := sys_of sl2 (by omega) so2 gl2 gf2
  have h42 : sp2.length ≤ 4 := by omega
  have hwd2 : ∀ s ∈ sp2, s.2 - s.1 ≤ 6 := fun s h => (so2 s h).2.2.2
  have R2 := rows_all hs2 h42 hwd2
  have ay2 := ev_all_years hs2 h42 hwd2
  generalize hmore : (allRows sp2).filter (suitsB gs2) = more at R2 ay2
  have mlen : ∀ r ∈ more, r.length ≤ 100 := fun r hr => by
    have := ((R2.mem r).mp hr).len
    omega
  have st13 : mFS 1 1 G_L_finds (mCons (m2 dAdd (mC (.int 1)) (mFS 1 1 G_L_draw (mCons (mC (.int 2)) mNil))) mNil) [.no, .stt, x2, .val (.int ((1 + m0 : Nat) : Int)), .val (SD sp), .val (GD gs), .val (RD rows), .val (.int (((f0 : Nat) : Int) - 450)), .val (SD (mvs (((f0 : Nat) : Int) - 450) sp)), .val (SD (nsp sp)), .val (GD (tgs gs)), .val (.list (nD names)), .val (.list (nD ((List.range (1 + m0)).map names.idxOf))), x13, x14, x15, x16, x17, x18, x19, x20, x21] w5 = some (.tuple [SD sp2, GD gs2], w7) :=
    mFS_of rfl (d := .int ((1 + m1' : Nat) : Int)) (w1 := w6) (m2_of (d := .int 1) (w1 := w5) rfl (e6 rfl rfl) (by show some (PyData.int (1 + ((m1' : Nat) : Int))) = _; rw [em1])) e7
  refine run_asg st13 (S1 := [.no, .stt, x2, .val (.int ((1 + m0 : Nat) : Int)), .val (SD sp), .val (GD gs), .val (RD rows), .val (.int (((f0 : Nat) : Int) - 450)), .val (SD (mvs (((f0 : Nat) : Int) - 450) sp)), .val (SD (nsp sp)), .val (GD (tgs gs)), .val (.list (nD names)), .val (.list (nD ((List.range (1 + m0)).map names.idxOf))), .val (.tuple [SD sp2, GD gs2]), x14, x15, x16, x17, x18, x19, x20, x21]) rfl ?_
  have st14 : mF (cal 2 G_L_all_years) (mCons (m2 dIx (mLook 13) (mC (.int 0))) (mCons (m2 dIx (mLook 13) (mC (.int 1))) mNil)) [.no, .stt, x2, .val (.int ((1 + m0 : Nat) : Int)), .val (SD sp), .val (GD gs), .val (RD rows), .val (.int (((f0 : Nat) : Int) - 450)), .val (SD (mvs (((f0 : Nat) : Int) - 450) sp)), .val (SD (nsp sp)), .val (GD (tgs gs)), .val (.list (nD names)), .val (.list (nD ((List.range (1 + m0)).map names.idxOf))), .val (.tuple [SD sp2, GD gs2]), x14, x15, x16, x17, x18, x19, x20, x21] w7 = some (RD more, w7) :=
    mF2_of (m2_of (d := .tuple [SD sp2, GD gs2]) (w1 := w7) rfl (d2 := .int 0) (w2 := w7) rfl (ix_tup2_0 _ _)) (m2_of (d := .tuple [SD sp2, GD gs2]) (w1 := w7) rfl (d2 := .int 1) (w2 := w7) rfl (ix_tup2_1 _ _)) (cal_of (n := 2) rfl ay2)
  refine run_asg st14 (S1 := [.no, .stt, x2, .val (.int ((1 + m0 : Nat) : Int)), .val (SD sp), .val (GD gs), .val (RD rows), .val (.int (((f0 : Nat) : Int) - 450)), .val (SD (mvs (((f0 : Nat) : Int) - 450) sp)), .val (SD (nsp sp)), .val (GD (tgs gs)), .val (.list (nD names)), .val (.list (nD ((List.range (1 + m0)).map names.idxOf))), .val (.tuple [SD sp2, GD gs2]), .val (RD more), x15, x16, x17, x18, x19, x20, x21]) rfl ?_
  have rf := R.few
  have mf := R2.few
  have mo : mulOk ((rows.length : Nat) : Int) ((more.length : Nat) : Int) := mulOk_l (by omega) (by omega)
  have ln : ∀ {i : Nat} {rs : List (List Int)} {S : SEnv}, S[i]? = some (.val (RD rs)) → mF dLenX (mCons (mLook i) mNil) S w7 = some (.int ((rs.length : Nat) : Int), w7) := fun {i rs S} h => mF1_of (d := RD rs) (w1 := w7) (by unfold mLook; rw [h]) (by simp only [dLenX, dLen, RD, seqOf, List.length_map, Option.map_some])
  have cmp : mB (m2 dGt (m2 dMul (mF dLenX (mCons (mLook 6) mNil)) (mF dLenX (mCons (mLook 14) mNil))) (mC (.int 400))) [.no, .stt, x2, .val (.int ((1 + m0 : Nat) : Int)), .val (SD sp), .val (GD gs), .val (RD rows), .val (.int (((f0 : Nat) : Int) - 450)), .val (SD (mvs (((f0 : Nat) : Int) - 450) sp)), .val (SD (nsp sp)), .val (GD (tgs gs)), .val (.list (nD names)), .val (.list (nD ((List.range (1 + m0)).map names.idxOf))), .val (.tuple [SD sp2, GD gs2]), .val (RD more), x15, x16, x17, x18, x19, x20, x21] w7 = some (decide (((rows.length : Nat) : Int) * ((more.length : Nat) : Int) > 400), w7) :=
    mB_of (m2_of (m2_of (ln (rs := rows) rfl) (ln (rs := more) rfl) (dMul_of mo)) (d2 := .int 400) (w2 := w7) rfl rfl)
  by_cases big : ((rows.length : Nat) : Int) * ((more.length : Nat) : Int) > 400
  · rw [decide_eq_true big] at cmp
    exact run_yes cmp (d := .bool true) rfl (.inl rfl)
  rw [decide_eq_false big] at cmp
  refine run_no cmp ?_
  have hm400 : rows.length * more.length ≤ 400 := by
    have : ((rows.length * more.length : Nat) : Int) = ((rows.length : Nat) : Int) * ((more.length : Nat) : Int) := Int.natCast_mul _ _
    omega
  have Rj := rows_join hs hs2 R R2 h4 (by omega) (by omega) hwd hwd2 hm400
  have hj := sys_join hs hs2 (by omega) (by omega)
  have gp := gps_lc (S := [.no, .stt, x2, .val (.int ((1 + m0 : Nat) : Int)), .val (SD sp), .val (GD gs), .val (RD rows), .val (.int (((f0 : Nat) : Int) - 450)), .val (SD (mvs (((f0 : Nat) : Int) - 450) sp)), .val (SD (nsp sp)), .val (GD (tgs gs)), .val (.list (nD names)), .val (.list (nD ((List.range (1 + m0)).map names.idxOf))), .val (.tuple [SD sp2, GD gs2]), .val (RD more), x15, x16, x17, x18, x19, x20, x21]) (w := w7) (gs := gs2) (f := fun g => (g.1 + sp.length, g.2.1 + sp.length, g.2.2)) (m := m2 dIx (mLook 13) (mC (.int 1))) (e := mTup (mCons (m2 dAdd (mLook 18) (mLook 3)) (mCons (m2 dAdd (mLook 19) (mLook 3)) (mCons (mVar 21) mNil)))) (by simp) (by omega) (m2_of (d := .tuple [SD sp2, GD gs2]) (w1 := w7) rfl (d2 := .int 1) (w2 := w7) rfl (ix_tup2_1 _ _)) fun g hg => by
      have a1 : ((g.1 : Nat) : Int) + ((1 + m0 : Nat) : Int) = ((g.1 + sp.length : Nat) : Int) := by omega
      have a2 : ((g.2.1 : Nat) : Int) + ((1 + m0 : Nat) : Int) = ((g.2.1 + sp.length : Nat) : Int) := by omega
      exact mTup3_of (d := .int ((g.1 + sp.length : Nat) : Int)) (d2 := .int ((g.2.1 + sp.length : Nat) : Int)) (d3 := .int g.2.2) (w1 := w7) (w2 := w7) (w3 := w7)
        (m2_of (d := .int ((g.1 : Nat) : Int)) (w1 := w7) rfl (d2 := .int ((1 + m0 : Nat) : Int)) (w2 := w7) rfl (by show some (PyData.int (((g.1 : Nat) : Int) + ((1 + m0 : Nat) : Int))) = _; rw [a1]))
        (m2_of (d := .int ((g.2.1 : Nat) : Int)) (w1 := w7) rfl (d2 := .int ((1 + m0 : Nat) : Int)) (w2 := w7) rfl (by show some (PyData.int (((g.2.1 : Nat) : Int) + ((1 + m0 : Nat) : Int))) = _; rw [a2])) rfl
  have adg : dAdd (GD gs) (GD (shg sp.length gs2)) = some (GD (gs ++ shg sp.length gs2)) := by
    unfold GD
    rw [dAdd_tup (by simp [shg]; omega), List.map_append]
  have st16 : m2 dAdd (mLook 5) (mF dTuple (mCons (mLc (mItems (m2 dIx (mLook 13) (mC (.int 1)))) (pTup (pCons (pName 18) (pCons (pName 19) (pCons (pName 21) pNil)))) mYes (mTup (mCons (m2 dAdd (mLook 18) (mLook 3)) (mCons (m2 dAdd (mLook 19) (mLook 3)) (mCons (mVar 21) mNil)))) [18, 19, 21]) mNil)) [.no, .stt, x2, .val (.int ((1 + m0 : Nat) : Int)), .val (SD sp), .val (GD gs), .val (RD rows), .val (.int (((f0 : Nat) : Int) - 450)), .val (SD (mvs (((f0 : Nat) : Int) - 450) sp)), .val (SD (nsp sp)), .val (GD (tgs gs)), .val (.list (nD names)), .val (.list (nD ((List.range (1 + m0)).map names.idxOf))), .val (.tuple [SD sp2, GD gs2]), .val (RD more), x15, x16, x17, x18, x19, x20, x21] w7 = some (GD (gs ++ shg sp.length gs2), w7) :=
    m2_of (d := GD gs) (w1 := w7) rfl gp adg
  refine run_seq (S1 := [.no, .stt, x2, .val (.int ((1 + m0 : Nat) : Int)), .val (SD sp), .val (GD gs), .val (RD rows), .val (.int (((f0 : Nat) : Int) - 450)), .val (SD (mvs (((f0 : Nat) : Int) - 450) sp)), .val (SD (nsp sp)), .val (GD (tgs gs)), .val (.list (nD names)), .val (.list (nD ((List.range (1 + m0)).map names.idxOf))), .val (.tuple [SD sp2, GD gs2]), .val (RD more), .own (RD []), .val (GD (gs ++ shg sp.length gs2)), x17, x18, x19, x20, x21]) (w1 := w7) ((sParF_of (mLst0 _ _) st16).trans rfl) ?_
  obtain ⟨y17, jl⟩ := join_loop (s2 := x2) (s3 := .val (.int ((1 + m0 : Nat) : Int))) (s4 := .val (SD sp)) (s5 := .val (GD gs)) (s6 := .val (RD rows)) (s7 := .val (.int (((f0 : Nat) : Int) - 450))) (s8 := .val (SD (mvs (((f0 : Nat) : Int) - 450) sp))) (s9 := .val (SD (nsp sp))) (s10 := .val (GD (tgs gs))) (s11 := .val (.list (nD names))) (s12 := .val (.list (nD ((List.range (1 + m0)).map names.idxOf)))) (s13 := .val (.tuple [SD sp2, GD gs2])) (s16 := .val (GD (gs ++ shg sp.length gs2))) (s18 := x18) (s19 := x19) (s20 := x20) (s21 := x21) (w := w7) mf mlen rows [] x17 rlen (by simp; omega)
  rw [List.nil_append] at jl
  refine run_seq (sFor_of (w1 := w7) (ds := rows.map rowD) rfl jl) ?_
  have ads : dAdd (SD sp) (SD sp2) = some (SD (sp ++ sp2)) := by
    unfold SD
    rw [dAdd_tup (by simp; omega), List.map_append]
  show Run (sIf _ _ sNx) [.no, .stt, x2, .val (.int ((1 + m0 : Nat) : Int)), .val (SD sp), .val (GD gs), .val (RD rows), .val (.int (((f0 : Nat) : Int) - 450)), .val (SD (mvs (((f0 : Nat) : Int) - 450) sp)), .val (SD (nsp sp)), .val (GD (tgs gs)), .val (.list (nD names)), .val (.list (nD ((List.range (1 + m0)).map names.idxOf))), .val (.tuple [SD sp2, GD gs2]), .val (RD more), .val (RD (joinR rows more)), .val (GD (gs ++ shg sp.length gs2)), y17, x18, x19, x20, x21] w7 (EndQ n)
  have fin := told_at (S := [.no, .stt, x2, .val (.int ((1 + m0 : Nat) : Int)), .val (SD sp), .val (GD gs), .val (RD rows), .val (.int (((f0 : Nat) : Int) - 450)), .val (SD (mvs (((f0 : Nat) : Int) - 450) sp)), .val (SD (nsp sp)), .val (GD (tgs gs)), .val (.list (nD names)), .val (.list (nD ((List.range (1 + m0)).map names.idxOf))), .val (.tuple [SD sp2, GD gs2]), .val (RD more), .val (RD (joinR rows more)), .val (GD (gs ++ shg sp.length gs2)), y17, x18, x19, x20, x21]) (w := w7) (a := m2 dAdd (mLook 4) (m2 dIx (mLook 13) (mC (.int 0)))) (b := mVar 16) (c := mVar 15) hj Rj (m2_of (d := SD sp) (w1 := w7) rfl (m2_of (d := .tuple [SD sp2, GD gs2]) (w1 := w7) rfl (d2 := .int 0) (w2 := w7) rfl (ix_tup2_0 _ _)) ads) rfl rfl
  exact run_last fin (.inr ⟨rfl, ⟨_, _, _, _, _, _, _, _, _, _, _, _, _, _, _, _, _, _, _, _, rfl⟩, n7, i7, by omega⟩)
theorem law_eq : m_law = sSeq (sFor (mRng1 (mCons (mC (.int 2)) mNil)) (pName 2) mBody) (sRet (mC (.bool true))) := rfl
theorem law_good : Good 20 m_law := by
  intro w h
  rw [law_eq]
  have s0 : IsL (.no :: .stt :: List.replicate 20 .no) := ⟨_, _, _, _, _, _, _, _, _, _, _, _, _, _, _, _, _, _, _, _, rfl⟩
  have pn : ∀ {S : SEnv} (d : PyData), IsL S → ∃ S1, pName 2 d S = some S1 ∧ IsL S1 := fun {S} d hS => by
    obtain ⟨x2, x3, x4, x5, x6, x7, x8, x9, x10, x11, x12, x13, x14, x15, x16, x17, x18, x19, x20, x21, rfl⟩ := hS
    exact ⟨_, rfl, _, _, _, _, _, _, _, _, _, _, _, _, _, _, _, _, _, _, _, _, rfl⟩
  have two : ∃ fl S' w', forGo (pName 2) mBody (rngD 0 1 2) (.no :: .stt :: List.replicate 20 .no) w = some (fl, S', w') ∧ (fl = .rt (.bool true) ∨ fl = .nx) := by
    rw [rngD_succ, rngD_succ, rngD_zero, forGo_cons]
    obtain ⟨S1, p1, l1⟩ := pn (.int 0) s0
    rw [p1, Option.bind_some]
    obtain ⟨fl, S2, w2, r1, q1⟩ := body_ok l1 h (by omega)
    rw [r1, Option.bind_some]
    rcases q1 with rfl | ⟨rfl, l2, n2, i2, ln2⟩
    · exact ⟨_, _, _, rfl, .inl rfl⟩
    · show ∃ fl S' w', forGo (pName 2) mBody [.int (0 + 1)] S2 w2 = some (fl, S', w') ∧ _
      rw [forGo_cons]
      obtain ⟨S3, p3, l3⟩ := pn (.int (0 + 1)) l2
      rw [p3, Option.bind_some]
      obtain ⟨fl, S4, w4, r4, q4⟩ := body_ok l3 i2 (by omega)
      rw [r4, Option.bind_some]
      rcases q4 with rfl | ⟨rfl, l4, n4, i4, ln4⟩
      · exact ⟨_, _, _, rfl, .inl rfl⟩
      · exact ⟨_, _, _, rfl, .inr rfl⟩
  obtain ⟨fl, S', w', lp, q⟩ := two
  have rg : mRng1 (mCons (mC (.int 2)) mNil) (.no :: .stt :: List.replicate 20 .no) w = some (rngD 0 1 2, w) := rfl
  rcases q with rfl | rfl
  · exact ⟨S', w', seq_rt (sFor_of rg lp)⟩
  · exact ⟨S', w', by rw [seq_nx (sFor_of rg lp)]; rfl⟩
end K64

set_option Elab.async false
set_option linter.all false
set_option maxRecDepth 100000
set_option maxHeartbeats 4000000
namespace K64
open PySem PySem.Spec PyProof.Rows L2 Mini
def topS (i : Nat) : Stmt := PySem.Challenge.pw_hoardsread_k64_whole_years_between_finds.main.body.getD i (.Pass ⟨0, 0, 0, 0⟩)
/-- the names that the top leaves free, its constants -/
structure Zs (mg : Str → Option Value) : Prop where
  abs : mg "abs" = none
  all : mg "all" = none
  bool : mg "bool" = none
  enumerate : mg "enumerate" = none
  int : mg "int" = none
  isinstance : mg "isinstance" = none
  len : mg "len" = none
  list : mg "list" = none
  max : mg "max" = none
  min : mg "min" = none
  range : mg "range" = none
  repr : mg "repr" = none
  sum : mg "sum" = none
  tuple : mg "tuple" = none
  zip : mg "zip" = none
  c_MAX_YEARS : ∃ t, mg "MAX_YEARS" = some (.int 5000 t)
  c_MAX_LOOKED : ∃ t, mg "MAX_LOOKED" = some (.int 20000 t)
  c_MAX_ROWS : ∃ t, mg "MAX_ROWS" = some (.int 60 t)
  c_MAX_LAYERS : ∃ t, mg "MAX_LAYERS" = some (.int 30 t)
abbrev s_L_draw : Stmt := topS 33
abbrev N_L_draw : List Str := ["state", "many", "found"]
theorem sc_L_draw : FnScope N_L_draw ["state", "many"] (defScope s_L_draw) := C8.fnScope_by (by decide +kernel)
abbrev s_L_finds : Stmt := topS 37
abbrev N_L_finds : List Str := ["state", "many", "years", "spans", "gaps", "own", "k", "one", "other"]
theorem sc_L_finds : FnScope N_L_finds ["state", "many"] (defScope s_L_finds) := C8.fnScope_by (by decide +kernel)
abbrev s_L_all_years : Stmt := topS 38
abbrev N_L_all_years : List Str := ["spans", "gaps", "rows", "first", "last", "more", "row", "own", "one", "other", "years"]
theorem sc_L_all_years : FnScope N_L_all_years ["spans", "gaps"] (defScope s_L_all_years) := C8.fnScope_by (by decide +kernel)
abbrev s_L_order : Stmt := topS 36
abbrev N_L_order : List Str := ["state", "rows", "found", "turn", "at"]
theorem sc_L_order : FnScope N_L_order ["state", "rows"] (defScope s_L_order) := C8.fnScope_by (by decide +kernel)
abbrev s_is_integer : Stmt := topS 7
abbrev N_is_integer : List Str := ["value"]
theorem sc_is_integer : FnScope N_is_integer ["value"] (defScope s_is_integer) := C8.fnScope_by (by decide +kernel)
abbrev s_is_year : Stmt := topS 14
abbrev N_is_year : List Str := ["value"]
theorem sc_is_year : FnScope N_is_year ["value"] (defScope s_is_year) := C8.fnScope_by (by decide +kernel)
abbrev s_is_gap : Stmt := topS 15
abbrev N_is_gap : List Str := ["value", "spans", "one", "other", "years", "own"]
theorem sc_is_gap : FnScope N_is_gap ["value", "spans"] (defScope s_is_gap) := C8.fnScope_by (by decide +kernel)
abbrev s_check_layers : Stmt := topS 13
abbrev N_check_layers : List Str := ["spans", "gaps", "span", "own"]
theorem sc_check_layers : FnScope N_check_layers ["spans", "gaps"] (defScope s_check_layers) := C8.fnScope_by (by decide +kernel)
abbrev s_grown : Stmt := topS 16
abbrev N_grown : List Str := ["years", "gaps", "rounds", "told", "turn", "number", "one", "other", "more"]
theorem sc_grown : FnScope N_grown ["years", "gaps", "rounds"] (defScope s_grown) := C8.fnScope_by (by decide +kernel)
abbrev s_raised_still : Stmt := topS 17
abbrev N_raised_still : List Str := ["years", "gaps", "found", "number", "one", "other", "more"]
theorem sc_raised_still : FnScope N_raised_still ["years", "gaps"] (defScope s_raised_still) := C8.fnScope_by (by decide +kernel)
abbrev s_ring_from : Stmt := topS 20
abbrev N_ring_from : List Str := ["spans", "gaps", "years", "told", "at", "turn", "begin", "way", "span"]
theorem sc_ring_from : FnScope N_ring_from ["spans", "gaps"] (defScope s_ring_from) := C8.fnScope_by (by decide +kernel)
abbrev s_way_to : Stmt := topS 19
abbrev N_way_to : List Str := ["gaps", "told", "at", "way"]
theorem sc_way_to : FnScope N_way_to ["gaps", "told", "at"] (defScope s_way_to) := C8.fnScope_by (by decide +kernel)
abbrev s_judge_layers : Stmt := topS 18
abbrev N_judge_layers : List Str := ["spans", "gaps", "years", "told", "number", "late", "span", "at"]
theorem sc_judge_layers : FnScope N_judge_layers ["spans", "gaps"] (defScope s_judge_layers) := C8.fnScope_by (by decide +kernel)
abbrev s_L_same : Stmt := topS 35
abbrev N_L_same : List Str := ["actual", "due"]
theorem sc_L_same : FnScope N_L_same ["actual", "due"] (defScope s_L_same) := C8.fnScope_by (by decide +kernel)
abbrev s_check_right : Stmt := topS 25
abbrev N_check_right : List Str := ["spans", "gaps"]
theorem sc_check_right : FnScope N_check_right ["spans", "gaps"] (defScope s_check_right) := C8.fnScope_by (by decide +kernel)
abbrev s_bounds_of : Stmt := topS 26
abbrev N_bounds_of : List Str := ["spans", "gaps", "least", "turned", "most", "one", "other", "more", "span", "own"]
theorem sc_bounds_of : FnScope N_bounds_of ["spans", "gaps"] (defScope s_bounds_of) := C8.fnScope_by (by decide +kernel)
abbrev s_suits : Stmt := topS 29
abbrev N_suits : List Str := ["row", "gaps", "one", "other", "more"]
theorem sc_suits : FnScope N_suits ["row", "gaps"] (defScope s_suits) := C8.fnScope_by (by decide +kernel)
abbrev s_count_years : Stmt := topS 28
abbrev N_count_years : List Str := ["spans", "gaps", "bounds", "rows", "at", "first", "last", "row", "year"]
theorem sc_count_years : FnScope N_count_years ["spans", "gaps"] (defScope s_count_years) := C8.fnScope_by (by decide +kernel)
abbrev s_accept_years : Stmt := topS 24
abbrev N_accept_years : List Str := ["spans", "gaps", "years", "own", "span", "one", "other", "more"]
theorem sc_accept_years : FnScope N_accept_years ["spans", "gaps", "years"] (defScope s_accept_years) := C8.fnScope_by (by decide +kernel)
abbrev s_is_way : Stmt := topS 21
abbrev N_is_way : List Str := ["value", "gaps", "own", "one", "other"]
theorem sc_is_way : FnScope N_is_way ["value", "gaps"] (defScope s_is_way) := C8.fnScope_by (by decide +kernel)
abbrev s_accept_ring : Stmt := topS 22
abbrev N_accept_ring : List Str := ["spans", "gaps", "ring", "own"]
theorem sc_accept_ring : FnScope N_accept_ring ["spans", "gaps", "ring"] (defScope s_accept_ring) := C8.fnScope_by (by decide +kernel)
abbrev s_accept_late : Stmt := topS 23
abbrev N_accept_late : List Str := ["spans", "gaps", "way", "own"]
theorem sc_accept_late : FnScope N_accept_late ["spans", "gaps", "way"] (defScope s_accept_late) := C8.fnScope_by (by decide +kernel)
abbrev s_L_told_holds : Stmt := topS 39
abbrev N_L_told_holds : List Str := ["spans", "gaps", "rows", "told", "many", "low", "high", "k", "own"]
theorem sc_L_told_holds : FnScope N_L_told_holds ["spans", "gaps", "rows"] (defScope s_L_told_holds) := C8.fnScope_by (by decide +kernel)
abbrev s_needless_gaps : Stmt := topS 30
abbrev N_needless_gaps : List Str := ["spans", "gaps", "bounds", "at"]
theorem sc_needless_gaps : FnScope N_needless_gaps ["spans", "gaps"] (defScope s_needless_gaps) := C8.fnScope_by (by decide +kernel)
abbrev s_L_pick : Stmt := topS 34
abbrev N_L_pick : List Str := ["state", "some"]
theorem sc_L_pick : FnScope N_L_pick ["state", "some"] (defScope s_L_pick) := C8.fnScope_by (by decide +kernel)
abbrev s_least_gap : Stmt := topS 27
abbrev N_least_gap : List Str := ["spans", "gaps", "one", "other", "reason", "own", "begin", "end", "found", "year", "fixed"]
theorem sc_least_gap : FnScope N_least_gap ["spans", "gaps", "one", "other"] (defScope s_least_gap) := C8.fnScope_by (by decide +kernel)
abbrev s_L_gaps_hold : Stmt := topS 40
abbrev N_L_gaps_hold : List Str := ["state", "spans", "gaps", "rows", "many", "least", "a", "b", "c", "bounds", "more", "k", "one", "other", "both", "own"]
theorem sc_L_gaps_hold : FnScope N_L_gaps_hold ["state", "spans", "gaps", "rows"] (defScope s_L_gaps_hold) := C8.fnScope_by (by decide +kernel)
abbrev s_law : Stmt := topS 41
abbrev N_law : List Str := ["script", "state", "turn", "many", "spans", "gaps", "rows", "far", "moved", "back", "turned", "names", "place", "small", "more", "both", "joined", "own", "one", "other", "row", "years"]
theorem sc_law : FnScope N_law ["script"] (defScope s_law) := C8.fnScope_by (by decide +kernel)
abbrev s_L_start : Stmt := topS 32
abbrev N_L_start : List Str := ["script", "seed", "cell"]
theorem sc_L_start : FnScope N_L_start ["script"] (defScope s_L_start) := C8.fnScope_by (by decide +kernel)
section
variable {P : Program} {w : World} {K : PySem.W.Frag} {mg : Str → Option Value} {base : Heap} {f : Addr} {fd : FuncData}
theorem f_L_draw (z : Zs mg) (F : FunD K "_law_draw" "_law_draw" (defArgs s_L_draw) (defBody s_L_draw) (defScope s_L_draw) [] [] f fd)  : FnG P w K mg base 1 f fd ["state", "many"] (spS true 1 G_L_draw) :=
  def_S (b := m_L_draw) F sc_L_draw rfl rfl fun cdv A outer s H hr => (db_cons (ds_if (dt_w (dw_and (dt_eq hr.rm (de_st (k := 3) (pv 0)) de_int) (dw_and1 (dt_lt (de_st (k := 1) (pv 0)) (de_stLen (pv 0) (by rfl) z.len)))))
    (db_one (ds_st3 (k1 := 2) (k2 := 3) (k3 := 1) rfl (pv 0) (pv 0) (pv 0) (da_cons (de_stCell (pv 0) (de_st (k := 1) (pv 0))) (da_cons de_int (da_cons (de_add (de_st (k := 1) (pv 0)) de_int) da_nil))))) db_nil)
    (db_cons (ds_if (dt_gt (de_st (k := 3) (pv 0)) de_int)
    (db_cons (ds_asg (us := [2]) (de_mod (de_callT call_int1 fn_int (by rfl) z.int bt_int (da_cons (de_top (de_st (k := 2) (pv 0))) da_nil)) (de_look (pv 1))) (dg_name (i := 2) sc_L_draw.nd rfl (by first | exact .inl rfl | exact .inr rfl)))
    (db_cons (ds_st (k := 2) (pv 0) (de_div (de_st (k := 2) (pv 0)) (de_look (pv 1))))
    (db_cons (ds_st (k := 3) (pv 0) (de_if (dt_gt (de_st (k := 2) (pv 0)) de_int) (de_sub (de_st (k := 3) (pv 0)) de_int) de_int))
    (db_one (ds_ret (de_look (pv 2))))))) db_nil)
    (db_cons (ds_st (k := 5) (pv 0) (de_add (de_st (k := 5) (pv 0)) de_int))
    (db_cons (ds_st (k := 4) (pv 0) (de_mod (de_callT call_int1 fn_int (by rfl) z.int bt_int (da_cons (de_top (de_add (de_add (de_mul (de_st (k := 4) (pv 0)) de_int) (de_mul (de_mul (de_st (k := 5) (pv 0)) (de_st (k := 5) (pv 0))) de_int)) de_int)) da_nil)) de_int))
    (db_one (ds_ret (de_top (de_mod (de_callT call_int1 fn_int (by rfl) z.int bt_int (da_cons (de_top (de_div (de_st (k := 4) (pv 0)) de_int)) da_nil)) (de_look (pv 1))))))))))
theorem f_L_finds (z : Zs mg) (F : FunD K "_law_finds" "_law_finds" (defArgs s_L_finds) (defBody s_L_finds) (defScope s_L_finds) [] [] f fd) (D_L_draw : DefP P w K mg base 1 "_law_draw" (spS true 1 G_L_draw) []) : FnG P w K mg base 2 f fd ["state", "many"] (spS true 1 G_L_finds) :=
  def_S (b := m_L_finds) F sc_L_finds rfl rfl fun cdv A outer s H hr => (db_cons (ds_parF3 (i := 2) (j := 3) (l := 4) rfl sc_L_finds.nd rfl rfl rfl (by decide) (by decide) (by decide) rfl rfl rfl (av_esc (de_lc (own := [("own", 5)]) rfl sc_L_finds.nd (di_range1 (by rfl) z.range (da_cons (de_var (pv 1)) da_nil)) (by exact blkOk_by (N := N_L_finds) (sc := defScope s_L_finds) (by decide +kernel)) (fun _ _ _ _ _ => (dg_name (i := 5) sc_L_finds.nd rfl (by first | exact .inl rfl | exact .inr rfl))) (fun _ _ _ _ _ => dts_nil) (fun _ _ _ _ _ => (de_callS D_L_draw (hr.mono (by decide)) (by rfl) (pv 0) (da_cons de_int da_nil))))) (av_fr (df_lst da_nil)) (av_fr (df_lst da_nil)) (by rfl))
    (db_cons (ds_for (us := [5]) PassesOwn.never rfl (di_range1 (by rfl) z.range (da_cons (de_var (pv 1)) da_nil)) (dg_name (i := 5) sc_L_finds.nd rfl (by first | exact .inl rfl | exact .inr rfl))
    (db_one (ds_append (pv 3) (de_tup (da_cons (de_sub (de_index (de_look (pv 2)) (de_look (pv 5))) (de_callS D_L_draw (hr.mono (by decide)) (by rfl) (pv 0) (da_cons de_int da_nil))) (da_cons (de_add (de_index (de_look (pv 2)) (de_look (pv 5))) (de_callS D_L_draw (hr.mono (by decide)) (by rfl) (pv 0) (da_cons de_int da_nil))) da_nil))))))
    (db_cons (ds_for (us := [6]) PassesOwn.never rfl (di_range1 (by rfl) z.range (da_cons (de_callS D_L_draw (hr.mono (by decide)) (by rfl) (pv 0) (da_cons de_int da_nil)) da_nil)) (dg_name (i := 6) sc_L_finds.nd rfl (by first | exact .inl rfl | exact .inr rfl))
    (db_cons (ds_par (i := 7) (j := 8) rfl sc_L_finds.nd rfl rfl (by decide) rfl rfl (da_cons (de_callS D_L_draw (hr.mono (by decide)) (by rfl) (pv 0) (da_cons (de_var (pv 1)) da_nil)) (da_cons (de_callS D_L_draw (hr.mono (by decide)) (by rfl) (pv 0) (da_cons (de_var (pv 1)) da_nil)) da_nil)) (by rfl))
    (db_one (ds_extend (pv 4) (de_if (dt_ne hr.rm (de_look (pv 7)) (de_look (pv 8))) (de_top (de_lst (da_cons (de_tup (da_cons (de_var (pv 7)) (da_cons (de_var (pv 8)) (da_cons (de_add (de_sub (de_sub (de_index (de_look (pv 2)) (de_look (pv 8))) (de_index (de_look (pv 2)) (de_look (pv 7)))) (de_callS D_L_draw (hr.mono (by decide)) (by rfl) (pv 0) (da_cons de_int da_nil))) (de_if (dt_eq hr.rm (de_callS D_L_draw (hr.mono (by decide)) (by rfl) (pv 0) (da_cons de_int da_nil)) de_int) (de_callS D_L_draw (hr.mono (by decide)) (by rfl) (pv 0) (da_cons de_int da_nil)) de_int)) da_nil)))) da_nil))) (de_top (de_lst da_nil)))))))
    (db_one (ds_ret (de_top (de_tup (da_cons (de_callT (call_tupB _) fn_tuple (by rfl) z.tuple bt_tuple (da_cons (de_look (pv 3)) da_nil)) (da_cons (de_callT (call_tupB _) fn_tuple (by rfl) z.tuple bt_tuple (da_cons (de_look (pv 4)) da_nil)) da_nil)))))))))
theorem f_L_all_years (z : Zs mg) (F : FunD K "_law_all_years" "_law_all_years" (defArgs s_L_all_years) (defBody s_L_all_years) (defScope s_L_all_years) [] [] f fd)  : FnG P w K mg base 1 f fd ["spans", "gaps"] (spM true 2 G_L_all_years) :=
  def_M (b := m_L_all_years) F sc_L_all_years rfl rfl fun cdv A outer s H hr => (db_cons (ds_asg (us := [2]) (de_lst (da_cons (de_tup da_nil) da_nil)) (dg_name (i := 2) sc_L_all_years.nd rfl (by first | exact .inl rfl | exact .inr rfl)))
    (db_cons (ds_for (us := [3, 4]) PassesOwn.never rfl (di_seq (de_var (pv 0))) (dg_tupV (dg_tup rfl (dgs_cons (dg_name (i := 3) sc_L_all_years.nd rfl (by first | exact .inl rfl | exact .inr rfl)) (dgs_cons (dg_name (i := 4) sc_L_all_years.nd rfl (by first | exact .inl rfl | exact .inr rfl)) dgs_nil))))
    (db_cons (ds_own (i := 5) sc_L_all_years.nd rfl (by first | exact .inl rfl | exact .inr rfl) (df_lst da_nil))
    (db_cons (ds_for (us := [6]) PassesOwn.never rfl (di_seq (de_var (pv 2))) (dg_name (i := 6) sc_L_all_years.nd rfl (by first | exact .inl rfl | exact .inr rfl))
    (db_one (ds_extend (pv 5) (de_top (de_lc (own := [("own", 7)]) rfl sc_L_all_years.nd (di_range2 (by rfl) z.range (da_cons (de_var (pv 3)) (da_cons (de_add (de_look (pv 4)) de_int) da_nil))) (by exact blkOk_by (N := N_L_all_years) (sc := defScope s_L_all_years) (by decide +kernel)) (fun _ _ _ _ _ => (dg_name (i := 7) sc_L_all_years.nd rfl (by first | exact .inl rfl | exact .inr rfl))) (fun _ _ _ _ _ => dts_nil) (fun _ _ _ _ _ => (de_add (de_look (pv 6)) (de_tup (da_cons (de_var (pv 7)) da_nil)))))))))
    (db_one (ds_frz (ds_asg (us := [2]) (de_var (pv 5)) (dg_name (i := 2) sc_L_all_years.nd rfl (by first | exact .inl rfl | exact .inr rfl))) 5)))))
    (db_one (ds_ret (de_top (de_lc (own := [("own", 7)]) rfl sc_L_all_years.nd (di_seq (de_look (pv 2))) (by exact blkOk_by (N := N_L_all_years) (sc := defScope s_L_all_years) (by decide +kernel)) (fun _ _ _ _ _ => (dg_name (i := 7) sc_L_all_years.nd rfl (by first | exact .inl rfl | exact .inr rfl))) (fun _ _ _ _ _ => (dts_one (dt_eq hr.rm (de_lc (own := [("one", 8), ("other", 9), ("years", 10)]) rfl sc_L_all_years.nd (di_seq (de_look (pv 1))) (by exact blkOk_by (N := N_L_all_years) (sc := relS _ (defScope s_L_all_years)) (by decide +kernel)) (fun _ _ _ _ _ => (dg_tupV (dg_tup rfl (dgs_cons (dg_name (i := 8) sc_L_all_years.nd rfl (by first | exact .inl rfl | exact .inr rfl)) (dgs_cons (dg_name (i := 9) sc_L_all_years.nd rfl (by first | exact .inl rfl | exact .inr rfl)) (dgs_cons (dg_name (i := 10) sc_L_all_years.nd rfl (by first | exact .inl rfl | exact .inr rfl)) dgs_nil)))))) (fun _ _ _ _ _ => (dts_one (dt_lt (de_sub (de_index (de_look (pv 7)) (de_look (pv 9))) (de_index (de_look (pv 7)) (de_look (pv 8)))) (de_look (pv 10))))) (fun _ _ _ _ _ => de_int)) (de_lst da_nil)))) (fun _ _ _ _ _ => (de_var (pv 7)))))))))
theorem f_L_order (z : Zs mg) (F : FunD K "_law_order" "_law_order" (defArgs s_L_order) (defBody s_L_order) (defScope s_L_order) [] [] f fd) (D_L_draw : DefP P w K mg base 1 "_law_draw" (spS true 1 G_L_draw) []) : FnG P w K mg base 2 f fd ["state", "rows"] (spS true 1 G_L_order) :=
  def_S (b := m_L_order) F sc_L_order rfl rfl fun cdv A outer s H hr => (db_cons (ds_parF (i := 1) (j := 2) rfl sc_L_order.nd rfl rfl (by decide) rfl rfl (av_esc (de_callT call_list_of fn_list (by rfl) z.list bt_list (da_cons (de_look (pv 1)) da_nil))) (av_fr (df_lst da_nil)) (by rfl))
    (db_cons (ds_for (us := [3]) PassesOwn.never rfl (di_range1 (by rfl) z.range (da_cons (de_callB call_len fn_len (by rfl) z.len bt_len (da_cons (de_look (pv 1)) da_nil)) da_nil)) (dg_name (i := 3) sc_L_order.nd rfl (by first | exact .inl rfl | exact .inr rfl))
    (db_cons (ds_asg (us := [4]) (de_callS D_L_draw (hr.mono (by decide)) (by rfl) (pv 0) (da_cons (de_callB call_len fn_len (by rfl) z.len bt_len (da_cons (de_look (pv 1)) da_nil)) da_nil)) (dg_name (i := 4) sc_L_order.nd rfl (by first | exact .inl rfl | exact .inr rfl)))
    (db_cons (ds_append (pv 2) (de_index (de_look (pv 1)) (de_look (pv 4))))
    (db_one (ds_asg (us := [1]) (de_add (de_slice (de_look (pv 1)) do_none (do_some (de_var (pv 4)))) (de_slice (de_look (pv 1)) (do_some (de_add (de_look (pv 4)) de_int)) do_none)) (dg_name (i := 1) sc_L_order.nd rfl (by first | exact .inl rfl | exact .inr rfl)))))))
    (db_one (ds_ret (de_look (pv 2))))))
theorem f_is_integer (z : Zs mg) (F : FunD K "is_integer" "is_integer" (defArgs s_is_integer) (defBody s_is_integer) (defScope s_is_integer) [] [] f fd)  : FnG P w K mg base 1 f fd ["value"] (spM true 1 G_is_integer) :=
  def_M (b := m_is_integer) F sc_is_integer rfl rfl fun cdv A outer s H hr => (db_one (ds_ret (de_top (de_and (de_isi (by rfl) z.isinstance bt_isinstance (by rfl) z.int bt_int (de_look (pv 0))) (de_one (de_notX (de_isi (by rfl) z.isinstance bt_isinstance (by rfl) z.bool bt_bool (de_look (pv 0)))))))))
theorem f_is_year (z : Zs mg) (F : FunD K "is_year" "is_year" (defArgs s_is_year) (defBody s_is_year) (defScope s_is_year) [] [] f fd) (D_is_integer : DefP P w K mg base 1 "is_integer" (spM true 1 G_is_integer) []) : FnG P w K mg base 2 f fd ["value"] (spM true 1 G_is_year) :=
  def_M (b := m_is_year) F sc_is_year rfl rfl fun cdv A outer s H hr => (db_one (ds_ret (de_top (de_and (de_call D_is_integer (hr.mono (by decide)) (by rfl) (da_cons (de_var (pv 0)) da_nil)) (de_one (de_ch2 op_le op_le op_cmp' op_cmp' (de_neg (de_gconst (by rfl) z.c_MAX_YEARS)) (de_look (pv 0)) (de_gconst (by rfl) z.c_MAX_YEARS)))))))
theorem f_is_gap (z : Zs mg) (F : FunD K "is_gap" "is_gap" (defArgs s_is_gap) (defBody s_is_gap) (defScope s_is_gap) [] [] f fd) (D_is_year : DefP P w K mg base 2 "is_year" (spM true 1 G_is_year) []) (D_is_integer : DefP P w K mg base 1 "is_integer" (spM true 1 G_is_integer) []) : FnG P w K mg base 3 f fd ["value", "spans"] (spM true 2 G_is_gap) :=
  def_M (b := m_is_gap) F sc_is_gap rfl rfl fun cdv A outer s H hr => (db_cons (ds_if (dt_w (dw_or (dt_not (dt_tru (de_isi (by rfl) z.isinstance bt_isinstance (by rfl) z.tuple bt_tuple (de_look (pv 0))))) (dw_or (dt_ne hr.rm (de_callB call_len fn_len (by rfl) z.len bt_len (da_cons (de_look (pv 0)) da_nil)) de_int) (dw_or1 (dt_not (dt_tru (de_callB (cr_all rfl) fn_all (by rfl) z.all bt_all (da_cons (de_top (de_lc (own := [("own", 5)]) rfl sc_is_gap.nd (di_seq (de_look (pv 0))) (by exact blkOk_by (N := N_is_gap) (sc := defScope s_is_gap) (by decide +kernel)) (fun _ _ _ _ _ => (dg_name (i := 5) sc_is_gap.nd rfl (by first | exact .inl rfl | exact .inr rfl))) (fun _ _ _ _ _ => dts_nil) (fun _ _ _ _ _ => (de_call D_is_integer (hr.mono (by decide)) (by rfl) (da_cons (de_var (pv 5)) da_nil))))) da_nil))))))))
    (db_one (ds_ret (de_top de_bl))) db_nil)
    (db_cons (ds_asg (us := [2, 3, 4]) (de_var (pv 0)) (dg_tupV (dg_tup rfl (dgs_cons (dg_name (i := 2) sc_is_gap.nd rfl (by first | exact .inl rfl | exact .inr rfl)) (dgs_cons (dg_name (i := 3) sc_is_gap.nd rfl (by first | exact .inl rfl | exact .inr rfl)) (dgs_cons (dg_name (i := 4) sc_is_gap.nd rfl (by first | exact .inl rfl | exact .inr rfl)) dgs_nil))))))
    (db_one (ds_ret (de_top (de_and (de_ch2 op_le op_lt op_cmp' op_cmp' de_int (de_look (pv 2)) (de_callB call_len fn_len (by rfl) z.len bt_len (da_cons (de_look (pv 1)) da_nil))) (de_and (de_ch2 op_le op_lt op_cmp' op_cmp' de_int (de_look (pv 3)) (de_callB call_len fn_len (by rfl) z.len bt_len (da_cons (de_look (pv 1)) da_nil))) (de_and (de_ne hr.rm (de_look (pv 2)) (de_look (pv 3))) (de_one (de_call D_is_year (hr.mono (by decide)) (by rfl) (da_cons (de_var (pv 4)) da_nil)))))))))))
theorem f_check_layers (z : Zs mg) (F : FunD K "check_layers" "check_layers" (defArgs s_check_layers) (defBody s_check_layers) (defScope s_check_layers) [] [] f fd) (D_is_gap : DefP P w K mg base 3 "is_gap" (spM true 2 G_is_gap) []) (D_is_year : DefP P w K mg base 2 "is_year" (spM true 1 G_is_year) []) : FnG P w K mg base 4 f fd ["spans", "gaps"] (spM true 2 G_check_layers) :=
  def_M (b := m_check_layers) F sc_check_layers rfl rfl fun cdv A outer s H hr => (db_cons (ds_if (dt_w (dw_or (dt_not (dt_tru (de_isi (by rfl) z.isinstance bt_isinstance (by rfl) z.tuple bt_tuple (de_look (pv 0))))) (dw_or1 (dt_gt (de_callB call_len fn_len (by rfl) z.len bt_len (da_cons (de_look (pv 0)) da_nil)) (de_gconst (by rfl) z.c_MAX_LAYERS)))))
    (db_one ds_no) db_nil)
    (db_cons (ds_for (us := [2]) PassesOwn.never rfl (di_seq (de_var (pv 0))) (dg_name (i := 2) sc_check_layers.nd rfl (by first | exact .inl rfl | exact .inr rfl))
    (db_cons (ds_if (dt_w (dw_or (dt_not (dt_tru (de_isi (by rfl) z.isinstance bt_isinstance (by rfl) z.tuple bt_tuple (de_look (pv 2))))) (dw_or (dt_ne hr.rm (de_callB call_len fn_len (by rfl) z.len bt_len (da_cons (de_look (pv 2)) da_nil)) de_int) (dw_or1 (dt_not (dt_tru (de_callB (cr_all rfl) fn_all (by rfl) z.all bt_all (da_cons (de_top (de_lc (own := [("own", 3)]) rfl sc_check_layers.nd (di_seq (de_look (pv 2))) (by exact blkOk_by (N := N_check_layers) (sc := defScope s_check_layers) (by decide +kernel)) (fun _ _ _ _ _ => (dg_name (i := 3) sc_check_layers.nd rfl (by first | exact .inl rfl | exact .inr rfl))) (fun _ _ _ _ _ => dts_nil) (fun _ _ _ _ _ => (de_call D_is_year (hr.mono (by decide)) (by rfl) (da_cons (de_var (pv 3)) da_nil))))) da_nil))))))))
    (db_one ds_no) db_nil)
    (db_one (ds_if (dt_gt (de_index (de_look (pv 2)) de_int) (de_index (de_look (pv 2)) de_int))
    (db_one ds_no) db_nil))))
    (db_one (ds_if (dt_w (dw_or (dt_not (dt_tru (de_isi (by rfl) z.isinstance bt_isinstance (by rfl) z.tuple bt_tuple (de_look (pv 1))))) (dw_or (dt_gt (de_callB call_len fn_len (by rfl) z.len bt_len (da_cons (de_look (pv 1)) da_nil)) (de_gconst (by rfl) z.c_MAX_ROWS)) (dw_or1 (dt_not (dt_tru (de_callB (cr_all rfl) fn_all (by rfl) z.all bt_all (da_cons (de_top (de_lc (own := [("own", 3)]) rfl sc_check_layers.nd (di_seq (de_look (pv 1))) (by exact blkOk_by (N := N_check_layers) (sc := defScope s_check_layers) (by decide +kernel)) (fun _ _ _ _ _ => (dg_name (i := 3) sc_check_layers.nd rfl (by first | exact .inl rfl | exact .inr rfl))) (fun _ _ _ _ _ => dts_nil) (fun _ _ _ _ _ => (de_call D_is_gap (hr.mono (by decide)) (by rfl) (da_cons (de_var (pv 3)) (da_cons (de_var (pv 0)) da_nil)))))) da_nil))))))))
    (db_one ds_no) db_nil))))
theorem f_grown (z : Zs mg) (F : FunD K "grown" "grown" (defArgs s_grown) (defBody s_grown) (defScope s_grown) [] [] f fd)  : FnG P w K mg base 1 f fd ["years", "gaps", "rounds"] (spM true 3 G_grown) :=
  def_M (b := m_grown) F sc_grown rfl rfl fun cdv A outer s H hr => (db_cons (ds_own (i := 0) sc_grown.nd rfl (by first | exact .inl rfl | exact .inr rfl) (df_list rfl (by rfl) z.list (da_cons (de_look (pv 0)) da_nil)))
    (db_cons (ds_own (i := 3) sc_grown.nd rfl (by first | exact .inl rfl | exact .inr rfl) (df_rep (de_lst (da_cons de_non da_nil)) (de_callB call_len fn_len (by rfl) z.len bt_len (da_cons (de_look (pv 0)) da_nil))))
    (db_cons (ds_for (us := [4]) PassesOwn.never rfl (di_range1 (by rfl) z.range (da_cons (de_var (pv 2)) da_nil)) (dg_name (i := 4) sc_grown.nd rfl (by first | exact .inl rfl | exact .inr rfl))
    (db_one (ds_for (us := [5, 6, 7, 8]) PassesOwn.never rfl (di_enumA (by rfl) z.enumerate (de_var (pv 1))) (dg_tup rfl (dgs_cons (dg_name (i := 5) sc_grown.nd rfl (by first | exact .inl rfl | exact .inr rfl)) (dgs_cons (dg_tupV (dg_tup rfl (dgs_cons (dg_name (i := 6) sc_grown.nd rfl (by first | exact .inl rfl | exact .inr rfl)) (dgs_cons (dg_name (i := 7) sc_grown.nd rfl (by first | exact .inl rfl | exact .inr rfl)) (dgs_cons (dg_name (i := 8) sc_grown.nd rfl (by first | exact .inl rfl | exact .inr rfl)) dgs_nil))))) dgs_nil)))
    (db_one (ds_if (dt_gt (de_add (de_index (de_look (pv 0)) (de_look (pv 6))) (de_look (pv 8))) (de_index (de_look (pv 0)) (de_look (pv 7))))
    (db_cons (ds_setIx (pv 0) (de_look (pv 7)) (de_add (de_index (de_look (pv 0)) (de_look (pv 6))) (de_look (pv 8))))
    (db_one (ds_setIx (pv 3) (de_look (pv 7)) (de_var (pv 5))))) db_nil)))))
    (db_one (ds_frz (ds_frz (ds_ret (de_top (de_tup (da_cons (de_var (pv 0)) (da_cons (de_var (pv 3)) da_nil))))) 3) 0)))))
theorem f_raised_still (z : Zs mg) (F : FunD K "raised_still" "raised_still" (defArgs s_raised_still) (defBody s_raised_still) (defScope s_raised_still) [] [] f fd)  : FnG P w K mg base 1 f fd ["years", "gaps"] (spM true 2 G_raised_still) :=
  def_M (b := m_raised_still) F sc_raised_still rfl rfl fun cdv A outer s H hr => (db_cons (ds_lc (own := [("number", 3), ("one", 4), ("other", 5), ("more", 6)]) rfl sc_raised_still.nd (i := 2) rfl rfl (sw_true rfl rfl rfl rfl) (di_enumA (by rfl) z.enumerate (de_look (pv 1))) (by exact blkOk_by (N := N_raised_still) (sc := defScope s_raised_still) (by decide +kernel)) (fun _ _ _ _ _ => (dg_tup rfl (dgs_cons (dg_name (i := 3) sc_raised_still.nd rfl (by first | exact .inl rfl | exact .inr rfl)) (dgs_cons (dg_tupV (dg_tup rfl (dgs_cons (dg_name (i := 4) sc_raised_still.nd rfl (by first | exact .inl rfl | exact .inr rfl)) (dgs_cons (dg_name (i := 5) sc_raised_still.nd rfl (by first | exact .inl rfl | exact .inr rfl)) (dgs_cons (dg_name (i := 6) sc_raised_still.nd rfl (by first | exact .inl rfl | exact .inr rfl)) dgs_nil))))) dgs_nil)))) (fun _ _ _ _ _ => (dts_one (dt_gt (de_add (de_index (de_look (pv 0)) (de_look (pv 4))) (de_look (pv 6))) (de_index (de_look (pv 0)) (de_look (pv 5)))))) (fun _ _ _ _ _ => (de_var (pv 3))))
    (db_one (ds_ret (de_if (dt_tru (de_look (pv 2))) (de_top (de_index (de_look (pv 2)) de_int)) (de_top de_non)))))
theorem f_ring_from (z : Zs mg) (F : FunD K "ring_from" "ring_from" (defArgs s_ring_from) (defBody s_ring_from) (defScope s_ring_from) [] [] f fd) (D_grown : DefP P w K mg base 1 "grown" (spM true 3 G_grown) []) (D_raised_still : DefP P w K mg base 1 "raised_still" (spM true 2 G_raised_still) []) : FnG P w K mg base 2 f fd ["spans", "gaps"] (spM true 2 G_ring_from) :=
  def_M (b := m_ring_from) F sc_ring_from rfl rfl fun cdv A outer s H hr => (db_cons (ds_asg (us := [2, 3]) (de_call D_grown (hr.mono (by decide)) (by rfl) (da_cons (de_lc (own := [("span", 8)]) rfl sc_ring_from.nd (di_seq (de_look (pv 0))) (by exact blkOk_by (N := N_ring_from) (sc := defScope s_ring_from) (by decide +kernel)) (fun _ _ _ _ _ => (dg_name (i := 8) sc_ring_from.nd rfl (by first | exact .inl rfl | exact .inr rfl))) (fun _ _ _ _ _ => dts_nil) (fun _ _ _ _ _ => (de_index (de_look (pv 8)) de_int))) (da_cons (de_var (pv 1)) (da_cons (de_add (de_callB call_len fn_len (by rfl) z.len bt_len (da_cons (de_look (pv 0)) da_nil)) de_int) da_nil)))) (dg_tupV (dg_tup rfl (dgs_cons (dg_name (i := 2) sc_ring_from.nd rfl (by first | exact .inl rfl | exact .inr rfl)) (dgs_cons (dg_name (i := 3) sc_ring_from.nd rfl (by first | exact .inl rfl | exact .inr rfl)) dgs_nil)))))
    (db_cons (ds_asg (us := [4]) (de_index (de_index (de_look (pv 1)) (de_call D_raised_still (hr.mono (by decide)) (by rfl) (da_cons (de_var (pv 2)) (da_cons (de_var (pv 1)) da_nil)))) de_int) (dg_name (i := 4) sc_ring_from.nd rfl (by first | exact .inl rfl | exact .inr rfl)))
    (db_cons (ds_for (us := [5]) PassesOwn.never rfl (di_range1 (by rfl) z.range (da_cons (de_add (de_callB call_len fn_len (by rfl) z.len bt_len (da_cons (de_look (pv 0)) da_nil)) de_int) da_nil)) (dg_name (i := 5) sc_ring_from.nd rfl (by first | exact .inl rfl | exact .inr rfl))
    (db_cons (ds_if (dt_is (de_index (de_look (pv 3)) (de_look (pv 4))) de_non)
    (db_one ds_break) db_nil)
    (db_one (ds_asg (us := [4]) (de_index (de_index (de_look (pv 1)) (de_index (de_look (pv 3)) (de_look (pv 4)))) de_int) (dg_name (i := 4) sc_ring_from.nd rfl (by first | exact .inl rfl | exact .inr rfl))))))
    (db_cons (ds_asg (us := [6]) (de_var (pv 4)) (dg_name (i := 6) sc_ring_from.nd rfl (by first | exact .inl rfl | exact .inr rfl)))
    (db_cons (ds_own (i := 7) sc_ring_from.nd rfl (by first | exact .inl rfl | exact .inr rfl) (df_lst da_nil))
    (db_cons (ds_while 100000 PassesOwn.never (dt_w (dw_or (dt_not (dt_tru (de_look (pv 7)))) (dw_or1 (dt_ne hr.rm (de_look (pv 4)) (de_look (pv 6))))))
    (db_cons (ds_append (pv 7) (de_index (de_look (pv 3)) (de_look (pv 4))))
    (db_one (ds_asg (us := [4]) (de_index (de_index (de_look (pv 1)) (de_index (de_look (pv 3)) (de_look (pv 4)))) de_int) (dg_name (i := 4) sc_ring_from.nd rfl (by first | exact .inl rfl | exact .inr rfl))))))
    (db_one (ds_ret (de_top (de_callT (call_tupB _) fn_tuple (by rfl) z.tuple bt_tuple (da_cons (de_top (de_rev (de_look (pv 7)))) da_nil)))))))))))
theorem f_way_to (z : Zs mg) (F : FunD K "way_to" "way_to" (defArgs s_way_to) (defBody s_way_to) (defScope s_way_to) [] [] f fd)  : FnG P w K mg base 1 f fd ["gaps", "told", "at"] (spM true 3 G_way_to) :=
  def_M (b := m_way_to) F sc_way_to rfl rfl fun cdv A outer s H hr => (db_cons (ds_own (i := 3) sc_way_to.nd rfl (by first | exact .inl rfl | exact .inr rfl) (df_lst da_nil))
    (db_cons (ds_while 100000 PassesOwn.never (dt_isnot (de_index (de_look (pv 1)) (de_look (pv 2))) de_non)
    (db_cons (ds_append (pv 3) (de_index (de_look (pv 1)) (de_look (pv 2))))
    (db_one (ds_asg (us := [2]) (de_index (de_index (de_look (pv 0)) (de_index (de_look (pv 1)) (de_look (pv 2)))) de_int) (dg_name (i := 2) sc_way_to.nd rfl (by first | exact .inl rfl | exact .inr rfl))))))
    (db_one (ds_ret (de_top (de_callT (call_tupB _) fn_tuple (by rfl) z.tuple bt_tuple (da_cons (de_top (de_rev (de_look (pv 3)))) da_nil)))))))
theorem f_judge_layers (z : Zs mg) (F : FunD K "judge_layers" "judge_layers" (defArgs s_judge_layers) (defBody s_judge_layers) (defScope s_judge_layers) [] [] f fd) (D_check_layers : DefP P w K mg base 4 "check_layers" (spM true 2 G_check_layers) []) (D_grown : DefP P w K mg base 1 "grown" (spM true 3 G_grown) []) (D_raised_still : DefP P w K mg base 1 "raised_still" (spM true 2 G_raised_still) []) (D_ring_from : DefP P w K mg base 2 "ring_from" (spM true 2 G_ring_from) []) (D_way_to : DefP P w K mg base 1 "way_to" (spM true 3 G_way_to) []) : FnG P w K mg base 5 f fd ["spans", "gaps"] (spM true 2 G_judge_layers) :=
  def_M (b := m_judge_layers) F sc_judge_layers rfl rfl fun cdv A outer s H hr => (db_cons (ds_drop (de_call D_check_layers (hr.mono (by decide)) (by rfl) (da_cons (de_var (pv 0)) (da_cons (de_var (pv 1)) da_nil))))
    (db_cons (ds_asg (us := [2, 3]) (de_call D_grown (hr.mono (by decide)) (by rfl) (da_cons (de_lc (own := [("span", 6)]) rfl sc_judge_layers.nd (di_seq (de_look (pv 0))) (by exact blkOk_by (N := N_judge_layers) (sc := defScope s_judge_layers) (by decide +kernel)) (fun _ _ _ _ _ => (dg_name (i := 6) sc_judge_layers.nd rfl (by first | exact .inl rfl | exact .inr rfl))) (fun _ _ _ _ _ => dts_nil) (fun _ _ _ _ _ => (de_index (de_look (pv 6)) de_int))) (da_cons (de_var (pv 1)) (da_cons (de_callB call_len fn_len (by rfl) z.len bt_len (da_cons (de_look (pv 0)) da_nil)) da_nil)))) (dg_tupV (dg_tup rfl (dgs_cons (dg_name (i := 2) sc_judge_layers.nd rfl (by first | exact .inl rfl | exact .inr rfl)) (dgs_cons (dg_name (i := 3) sc_judge_layers.nd rfl (by first | exact .inl rfl | exact .inr rfl)) dgs_nil)))))
    (db_cons (ds_asg (us := [4]) (de_call D_raised_still (hr.mono (by decide)) (by rfl) (da_cons (de_var (pv 2)) (da_cons (de_var (pv 1)) da_nil))) (dg_name (i := 4) sc_judge_layers.nd rfl (by first | exact .inl rfl | exact .inr rfl)))
    (db_cons (ds_if (dt_isnot (de_look (pv 4)) de_non)
    (db_one (ds_ret (de_top (de_tup (da_cons de_str (da_cons (de_call D_ring_from (hr.mono (by decide)) (by rfl) (da_cons (de_var (pv 0)) (da_cons (de_var (pv 1)) da_nil))) da_nil)))))) db_nil)
    (db_cons (ds_lc (own := [("at", 7), ("span", 6)]) rfl sc_judge_layers.nd (i := 5) rfl rfl (sw_true rfl rfl rfl rfl) (di_enumA (by rfl) z.enumerate (de_look (pv 0))) (by exact blkOk_by (N := N_judge_layers) (sc := defScope s_judge_layers) (by decide +kernel)) (fun _ _ _ _ _ => (dg_tup rfl (dgs_cons (dg_name (i := 7) sc_judge_layers.nd rfl (by first | exact .inl rfl | exact .inr rfl)) (dgs_cons (dg_name (i := 6) sc_judge_layers.nd rfl (by first | exact .inl rfl | exact .inr rfl)) dgs_nil)))) (fun _ _ _ _ _ => (dts_one (dt_gt (de_index (de_look (pv 2)) (de_look (pv 7))) (de_index (de_look (pv 6)) de_int)))) (fun _ _ _ _ _ => (de_var (pv 7))))
    (db_cons (ds_if (dt_tru (de_look (pv 5)))
    (db_one (ds_ret (de_top (de_tup (da_cons de_str (da_cons (de_call D_way_to (hr.mono (by decide)) (by rfl) (da_cons (de_var (pv 1)) (da_cons (de_var (pv 3)) (da_cons (de_index (de_look (pv 5)) de_int) da_nil)))) da_nil)))))) db_nil)
    (db_one (ds_ret (de_top (de_tup (da_cons de_str (da_cons (de_callT (call_tupB _) fn_tuple (by rfl) z.tuple bt_tuple (da_cons (de_look (pv 2)) da_nil)) da_nil))))))))))))
theorem f_L_same (z : Zs mg) (F : FunD K "_law_same" "_law_same" (defArgs s_L_same) (defBody s_L_same) (defScope s_L_same) [] [] f fd)  : FnG P w K mg base 1 f fd ["actual", "due"] (spM true 2 G_L_same) :=
  def_M (b := m_L_same) F sc_L_same rfl rfl fun cdv A outer s H hr => (db_one (ds_ret (de_top (de_and (de_eq hr.rm (de_look (pv 0)) (de_look (pv 1))) (de_one (de_eq hr.rm (de_callB (call_reprD hr.gd hr.rm.units) fn_repr (by rfl) z.repr bt_repr (da_cons (de_look (pv 0)) da_nil)) (de_callB (call_reprD hr.gd hr.rm.units) fn_repr (by rfl) z.repr bt_repr (da_cons (de_look (pv 1)) da_nil))))))))
theorem f_check_right (z : Zs mg) (F : FunD K "check_right" "check_right" (defArgs s_check_right) (defBody s_check_right) (defScope s_check_right) [] [] f fd) (D_judge_layers : DefP P w K mg base 5 "judge_layers" (spM true 2 G_judge_layers) []) : FnG P w K mg base 6 f fd ["spans", "gaps"] (spM true 2 G_check_right) :=
  def_M (b := m_check_right) F sc_check_right rfl rfl fun cdv A outer s H hr => (db_one (ds_if (dt_ne hr.rm (de_index (de_call D_judge_layers (hr.mono (by decide)) (by rfl) (da_cons (de_var (pv 0)) (da_cons (de_var (pv 1)) da_nil))) de_int) de_str)
    (db_one ds_no) db_nil))
theorem f_bounds_of (z : Zs mg) (F : FunD K "bounds_of" "bounds_of" (defArgs s_bounds_of) (defBody s_bounds_of) (defScope s_bounds_of) [] [] f fd) (D_check_right : DefP P w K mg base 6 "check_right" (spM true 2 G_check_right) []) (D_judge_layers : DefP P w K mg base 5 "judge_layers" (spM true 2 G_judge_layers) []) (D_grown : DefP P w K mg base 1 "grown" (spM true 3 G_grown) []) : FnG P w K mg base 7 f fd ["spans", "gaps"] (spM true 2 G_bounds_of) :=
  def_M (b := m_bounds_of) F sc_bounds_of rfl rfl fun cdv A outer s H hr => (db_cons (ds_drop (de_call D_check_right (hr.mono (by decide)) (by rfl) (da_cons (de_var (pv 0)) (da_cons (de_var (pv 1)) da_nil))))
    (db_cons (ds_asg (us := [2]) (de_index (de_call D_judge_layers (hr.mono (by decide)) (by rfl) (da_cons (de_var (pv 0)) (da_cons (de_var (pv 1)) da_nil))) de_int) (dg_name (i := 2) sc_bounds_of.nd rfl (by first | exact .inl rfl | exact .inr rfl)))
    (db_cons (ds_asg (us := [3]) (de_callT (call_tupB _) fn_tuple (by rfl) z.tuple bt_tuple (da_cons (de_top (de_lc (own := [("one", 5), ("other", 6), ("more", 7)]) rfl sc_bounds_of.nd (di_seq (de_look (pv 1))) (by exact blkOk_by (N := N_bounds_of) (sc := defScope s_bounds_of) (by decide +kernel)) (fun _ _ _ _ _ => (dg_tupV (dg_tup rfl (dgs_cons (dg_name (i := 5) sc_bounds_of.nd rfl (by first | exact .inl rfl | exact .inr rfl)) (dgs_cons (dg_name (i := 6) sc_bounds_of.nd rfl (by first | exact .inl rfl | exact .inr rfl)) (dgs_cons (dg_name (i := 7) sc_bounds_of.nd rfl (by first | exact .inl rfl | exact .inr rfl)) dgs_nil)))))) (fun _ _ _ _ _ => dts_nil) (fun _ _ _ _ _ => (de_tup (da_cons (de_var (pv 6)) (da_cons (de_var (pv 5)) (da_cons (de_var (pv 7)) da_nil))))))) da_nil)) (dg_name (i := 3) sc_bounds_of.nd rfl (by first | exact .inl rfl | exact .inr rfl)))
    (db_cons (ds_asg (us := [4]) (de_index (de_call D_grown (hr.mono (by decide)) (by rfl) (da_cons (de_lc (own := [("span", 8)]) rfl sc_bounds_of.nd (di_seq (de_look (pv 0))) (by exact blkOk_by (N := N_bounds_of) (sc := defScope s_bounds_of) (by decide +kernel)) (fun _ _ _ _ _ => (dg_name (i := 8) sc_bounds_of.nd rfl (by first | exact .inl rfl | exact .inr rfl))) (fun _ _ _ _ _ => dts_nil) (fun _ _ _ _ _ => (de_neg (de_index (de_look (pv 8)) de_int)))) (da_cons (de_var (pv 3)) (da_cons (de_callB call_len fn_len (by rfl) z.len bt_len (da_cons (de_look (pv 0)) da_nil)) da_nil)))) de_int) (dg_name (i := 4) sc_bounds_of.nd rfl (by first | exact .inl rfl | exact .inr rfl)))
    (db_one (ds_ret (de_top (de_callT (call_tupB _) fn_tuple (by rfl) z.tuple bt_tuple (da_cons (de_top (de_lc (own := [("own", 9), ("other", 6)]) rfl sc_bounds_of.nd (di_zipA (by rfl) z.zip (de_look (pv 2)) (de_look (pv 4))) (by exact blkOk_by (N := N_bounds_of) (sc := defScope s_bounds_of) (by decide +kernel)) (fun _ _ _ _ _ => (dg_tup rfl (dgs_cons (dg_name (i := 9) sc_bounds_of.nd rfl (by first | exact .inl rfl | exact .inr rfl)) (dgs_cons (dg_name (i := 6) sc_bounds_of.nd rfl (by first | exact .inl rfl | exact .inr rfl)) dgs_nil)))) (fun _ _ _ _ _ => dts_nil) (fun _ _ _ _ _ => (de_tup (da_cons (de_var (pv 9)) (da_cons (de_neg (de_look (pv 6))) da_nil)))))) da_nil)))))))))
theorem f_suits (z : Zs mg) (F : FunD K "suits" "suits" (defArgs s_suits) (defBody s_suits) (defScope s_suits) [] [] f fd)  : FnG P w K mg base 1 f fd ["row", "gaps"] (spM true 2 G_suits) :=
  def_M (b := m_suits) F sc_suits rfl rfl fun cdv A outer s H hr => (db_cons (ds_for (us := [2, 3, 4]) PassesOwn.never rfl (di_seq (de_var (pv 1))) (dg_tupV (dg_tup rfl (dgs_cons (dg_name (i := 2) sc_suits.nd rfl (by first | exact .inl rfl | exact .inr rfl)) (dgs_cons (dg_name (i := 3) sc_suits.nd rfl (by first | exact .inl rfl | exact .inr rfl)) (dgs_cons (dg_name (i := 4) sc_suits.nd rfl (by first | exact .inl rfl | exact .inr rfl)) dgs_nil)))))
    (db_one (ds_if (dt_w (dw_and (dt_lt (de_look (pv 2)) (de_callB call_len fn_len (by rfl) z.len bt_len (da_cons (de_look (pv 0)) da_nil))) (dw_and (dt_lt (de_look (pv 3)) (de_callB call_len fn_len (by rfl) z.len bt_len (da_cons (de_look (pv 0)) da_nil))) (dw_and1 (dt_lt (de_sub (de_index (de_look (pv 0)) (de_look (pv 3))) (de_index (de_look (pv 0)) (de_look (pv 2)))) (de_look (pv 4)))))))
    (db_one (ds_ret (de_top de_bl))) db_nil)))
    (db_one (ds_ret (de_top de_bl))))
theorem f_count_years (z : Zs mg) (F : FunD K "count_years" "count_years" (defArgs s_count_years) (defBody s_count_years) (defScope s_count_years) [] [] f fd) (D_bounds_of : DefP P w K mg base 7 "bounds_of" (spM true 2 G_bounds_of) []) (D_judge_layers : DefP P w K mg base 5 "judge_layers" (spM true 2 G_judge_layers) []) (D_suits : DefP P w K mg base 1 "suits" (spM true 2 G_suits) []) : FnG P w K mg base 8 f fd ["spans", "gaps"] (spM true 2 G_count_years) :=
  def_M (b := m_count_years) F sc_count_years rfl rfl fun cdv A outer s H hr => (db_cons (ds_if (dt_ne hr.rm (de_index (de_call D_judge_layers (hr.mono (by decide)) (by rfl) (da_cons (de_var (pv 0)) (da_cons (de_var (pv 1)) da_nil))) de_int) de_str)
    (db_one (ds_ret (de_top de_int))) db_nil)
    (db_cons (ds_asg (us := [2]) (de_call D_bounds_of (hr.mono (by decide)) (by rfl) (da_cons (de_var (pv 0)) (da_cons (de_var (pv 1)) da_nil))) (dg_name (i := 2) sc_count_years.nd rfl (by first | exact .inl rfl | exact .inr rfl)))
    (db_cons (ds_asg (us := [3]) (de_lst (da_cons (de_tup da_nil) da_nil)) (dg_name (i := 3) sc_count_years.nd rfl (by first | exact .inl rfl | exact .inr rfl)))
    (db_cons (ds_for (us := [4, 5, 6]) PassesOwn.never rfl (di_enumA (by rfl) z.enumerate (de_var (pv 2))) (dg_tup rfl (dgs_cons (dg_name (i := 4) sc_count_years.nd rfl (by first | exact .inl rfl | exact .inr rfl)) (dgs_cons (dg_tupV (dg_tup rfl (dgs_cons (dg_name (i := 5) sc_count_years.nd rfl (by first | exact .inl rfl | exact .inr rfl)) (dgs_cons (dg_name (i := 6) sc_count_years.nd rfl (by first | exact .inl rfl | exact .inr rfl)) dgs_nil)))) dgs_nil)))
    (db_cons (ds_if (dt_gt (de_mul (de_callB call_len fn_len (by rfl) z.len bt_len (da_cons (de_look (pv 3)) da_nil)) (de_add (de_sub (de_look (pv 6)) (de_look (pv 5))) de_int)) (de_gconst (by rfl) z.c_MAX_LOOKED))
    (db_one ds_no) db_nil)
    (db_cons (ds_lc2 (own := [("row", 7), ("year", 8)]) (vs1 := [8]) rfl sc_count_years.nd (i := 3) rfl rfl (sw_true rfl rfl rfl rfl) (di_seq (de_look (pv 3))) (by exact blkOk_by (N := N_count_years) (sc := defScope s_count_years) (by decide +kernel)) ko_name (by decide) (fun _ _ _ _ _ => (dg_name (i := 7) sc_count_years.nd rfl (by first | exact .inl rfl | exact .inr rfl))) (fun _ _ _ _ _ => dts_nil) (fun _ _ _ _ _ => (di_range2 (by rfl) z.range (da_cons (de_var (pv 5)) (da_cons (de_add (de_look (pv 6)) de_int) da_nil)))) (fun _ _ _ _ _ => (dg_name (i := 8) sc_count_years.nd rfl (by first | exact .inl rfl | exact .inr rfl))) (fun _ _ _ _ _ => dts_nil) (fun _ _ _ _ _ => (de_add (de_look (pv 7)) (de_tup (da_cons (de_var (pv 8)) da_nil)))))
    (db_one (ds_lc (own := [("row", 7)]) rfl sc_count_years.nd (i := 3) rfl rfl (sw_true rfl rfl rfl rfl) (di_seq (de_look (pv 3))) (by exact blkOk_by (N := N_count_years) (sc := defScope s_count_years) (by decide +kernel)) (fun _ _ _ _ _ => (dg_name (i := 7) sc_count_years.nd rfl (by first | exact .inl rfl | exact .inr rfl))) (fun _ _ _ _ _ => (dts_one (dt_tru (de_call D_suits (hr.mono (by decide)) (by rfl) (da_cons (de_var (pv 7)) (da_cons (de_var (pv 1)) da_nil)))))) (fun _ _ _ _ _ => (de_var (pv 7))))))))
    (db_one (ds_ret (de_top (de_callB call_len fn_len (by rfl) z.len bt_len (da_cons (de_look (pv 3)) da_nil)))))))))
theorem f_accept_years (z : Zs mg) (F : FunD K "accept_years" "accept_years" (defArgs s_accept_years) (defBody s_accept_years) (defScope s_accept_years) [] [] f fd) (D_check_layers : DefP P w K mg base 4 "check_layers" (spM true 2 G_check_layers) []) (D_is_integer : DefP P w K mg base 1 "is_integer" (spM true 1 G_is_integer) []) : FnG P w K mg base 5 f fd ["spans", "gaps", "years"] (spM true 3 G_accept_years) :=
  def_M (b := m_accept_years) F sc_accept_years rfl rfl fun cdv A outer s H hr => (db_cons (ds_drop (de_call D_check_layers (hr.mono (by decide)) (by rfl) (da_cons (de_var (pv 0)) (da_cons (de_var (pv 1)) da_nil))))
    (db_cons (ds_if (dt_w (dw_or (dt_not (dt_tru (de_isi (by rfl) z.isinstance bt_isinstance (by rfl) z.tuple bt_tuple (de_look (pv 2))))) (dw_or (dt_ne hr.rm (de_callB call_len fn_len (by rfl) z.len bt_len (da_cons (de_look (pv 2)) da_nil)) (de_callB call_len fn_len (by rfl) z.len bt_len (da_cons (de_look (pv 0)) da_nil))) (dw_or1 (dt_not (dt_tru (de_callB (cr_all rfl) fn_all (by rfl) z.all bt_all (da_cons (de_top (de_lc (own := [("own", 3)]) rfl sc_accept_years.nd (di_seq (de_look (pv 2))) (by exact blkOk_by (N := N_accept_years) (sc := defScope s_accept_years) (by decide +kernel)) (fun _ _ _ _ _ => (dg_name (i := 3) sc_accept_years.nd rfl (by first | exact .inl rfl | exact .inr rfl))) (fun _ _ _ _ _ => dts_nil) (fun _ _ _ _ _ => (de_call D_is_integer (hr.mono (by decide)) (by rfl) (da_cons (de_var (pv 3)) da_nil))))) da_nil))))))))
    (db_one ds_no) db_nil)
    (db_cons (ds_if (dt_tru (de_lc (own := [("own", 3), ("span", 4)]) rfl sc_accept_years.nd (di_zipA (by rfl) z.zip (de_look (pv 2)) (de_look (pv 0))) (by exact blkOk_by (N := N_accept_years) (sc := defScope s_accept_years) (by decide +kernel)) (fun _ _ _ _ _ => (dg_tup rfl (dgs_cons (dg_name (i := 3) sc_accept_years.nd rfl (by first | exact .inl rfl | exact .inr rfl)) (dgs_cons (dg_name (i := 4) sc_accept_years.nd rfl (by first | exact .inl rfl | exact .inr rfl)) dgs_nil)))) (fun _ _ _ _ _ => (dts_one (dt_not (dt_ch2 op_le op_le op_cmp' op_cmp' (de_index (de_look (pv 4)) de_int) (de_look (pv 3)) (de_index (de_look (pv 4)) de_int))))) (fun _ _ _ _ _ => de_int)))
    (db_one ds_no) db_nil)
    (db_one (ds_if (dt_tru (de_lc (own := [("one", 5), ("other", 6), ("more", 7)]) rfl sc_accept_years.nd (di_seq (de_look (pv 1))) (by exact blkOk_by (N := N_accept_years) (sc := defScope s_accept_years) (by decide +kernel)) (fun _ _ _ _ _ => (dg_tupV (dg_tup rfl (dgs_cons (dg_name (i := 5) sc_accept_years.nd rfl (by first | exact .inl rfl | exact .inr rfl)) (dgs_cons (dg_name (i := 6) sc_accept_years.nd rfl (by first | exact .inl rfl | exact .inr rfl)) (dgs_cons (dg_name (i := 7) sc_accept_years.nd rfl (by first | exact .inl rfl | exact .inr rfl)) dgs_nil)))))) (fun _ _ _ _ _ => (dts_one (dt_lt (de_sub (de_index (de_look (pv 2)) (de_look (pv 6))) (de_index (de_look (pv 2)) (de_look (pv 5)))) (de_look (pv 7))))) (fun _ _ _ _ _ => de_int)))
    (db_one ds_no) db_nil)))))
theorem f_is_way (z : Zs mg) (F : FunD K "is_way" "is_way" (defArgs s_is_way) (defBody s_is_way) (defScope s_is_way) [] [] f fd) (D_is_integer : DefP P w K mg base 1 "is_integer" (spM true 1 G_is_integer) []) : FnG P w K mg base 2 f fd ["value", "gaps"] (spM true 2 G_is_way) :=
  def_M (b := m_is_way) F sc_is_way rfl rfl fun cdv A outer s H hr => (db_cons (ds_if (dt_w (dw_or (dt_not (dt_tru (de_isi (by rfl) z.isinstance bt_isinstance (by rfl) z.tuple bt_tuple (de_look (pv 0))))) (dw_or1 (dt_not (dt_tru (de_look (pv 0)))))))
    (db_one (ds_ret (de_top de_bl))) db_nil)
    (db_cons (ds_if (dt_not (dt_tru (de_callB (cr_all rfl) fn_all (by rfl) z.all bt_all (da_cons (de_top (de_lc (own := [("own", 2)]) rfl sc_is_way.nd (di_seq (de_look (pv 0))) (by exact blkOk_by (N := N_is_way) (sc := defScope s_is_way) (by decide +kernel)) (fun _ _ _ _ _ => (dg_name (i := 2) sc_is_way.nd rfl (by first | exact .inl rfl | exact .inr rfl))) (fun _ _ _ _ _ => dts_nil) (fun _ _ _ _ _ => (de_and (de_call D_is_integer (hr.mono (by decide)) (by rfl) (da_cons (de_var (pv 2)) da_nil)) (de_one (de_ch2 op_le op_lt op_cmp' op_cmp' de_int (de_look (pv 2)) (de_callB call_len fn_len (by rfl) z.len bt_len (da_cons (de_look (pv 1)) da_nil)))))))) da_nil))))
    (db_one (ds_ret (de_top de_bl))) db_nil)
    (db_one (ds_ret (de_top (de_notX (de_lc (own := [("one", 3), ("other", 4)]) rfl sc_is_way.nd (di_zipA (by rfl) z.zip (de_look (pv 0)) (de_top (de_slice (de_look (pv 0)) (do_some de_int) do_none))) (by exact blkOk_by (N := N_is_way) (sc := defScope s_is_way) (by decide +kernel)) (fun _ _ _ _ _ => (dg_tup rfl (dgs_cons (dg_name (i := 3) sc_is_way.nd rfl (by first | exact .inl rfl | exact .inr rfl)) (dgs_cons (dg_name (i := 4) sc_is_way.nd rfl (by first | exact .inl rfl | exact .inr rfl)) dgs_nil)))) (fun _ _ _ _ _ => (dts_one (dt_ne hr.rm (de_index (de_index (de_look (pv 1)) (de_look (pv 3))) de_int) (de_index (de_index (de_look (pv 1)) (de_look (pv 4))) de_int)))) (fun _ _ _ _ _ => de_int))))))))
theorem f_accept_ring (z : Zs mg) (F : FunD K "accept_ring" "accept_ring" (defArgs s_accept_ring) (defBody s_accept_ring) (defScope s_accept_ring) [] [] f fd) (D_check_layers : DefP P w K mg base 4 "check_layers" (spM true 2 G_check_layers) []) (D_is_way : DefP P w K mg base 2 "is_way" (spM true 2 G_is_way) []) : FnG P w K mg base 5 f fd ["spans", "gaps", "ring"] (spM true 3 G_accept_ring) :=
  def_M (b := m_accept_ring) F sc_accept_ring rfl rfl fun cdv A outer s H hr => (db_cons (ds_drop (de_call D_check_layers (hr.mono (by decide)) (by rfl) (da_cons (de_var (pv 0)) (da_cons (de_var (pv 1)) da_nil))))
    (db_cons (ds_if (dt_not (dt_tru (de_call D_is_way (hr.mono (by decide)) (by rfl) (da_cons (de_var (pv 2)) (da_cons (de_var (pv 1)) da_nil)))))
    (db_one ds_no) db_nil)
    (db_cons (ds_if (dt_ne hr.rm (de_index (de_index (de_look (pv 1)) (de_index (de_look (pv 2)) (de_neg de_int))) de_int) (de_index (de_index (de_look (pv 1)) (de_index (de_look (pv 2)) de_int)) de_int))
    (db_one ds_no) db_nil)
    (db_one (ds_if (dt_le (de_callB (call_sumX rfl) fn_sum (by rfl) z.sum bt_sum (da_cons (de_top (de_lc (own := [("own", 3)]) rfl sc_accept_ring.nd (di_seq (de_look (pv 2))) (by exact blkOk_by (N := N_accept_ring) (sc := defScope s_accept_ring) (by decide +kernel)) (fun _ _ _ _ _ => (dg_name (i := 3) sc_accept_ring.nd rfl (by first | exact .inl rfl | exact .inr rfl))) (fun _ _ _ _ _ => dts_nil) (fun _ _ _ _ _ => (de_index (de_index (de_look (pv 1)) (de_look (pv 3))) de_int)))) da_nil)) de_int)
    (db_one ds_no) db_nil)))))
theorem f_accept_late (z : Zs mg) (F : FunD K "accept_late" "accept_late" (defArgs s_accept_late) (defBody s_accept_late) (defScope s_accept_late) [] [] f fd) (D_check_layers : DefP P w K mg base 4 "check_layers" (spM true 2 G_check_layers) []) (D_is_way : DefP P w K mg base 2 "is_way" (spM true 2 G_is_way) []) : FnG P w K mg base 5 f fd ["spans", "gaps", "way"] (spM true 3 G_accept_late) :=
  def_M (b := m_accept_late) F sc_accept_late rfl rfl fun cdv A outer s H hr => (db_cons (ds_drop (de_call D_check_layers (hr.mono (by decide)) (by rfl) (da_cons (de_var (pv 0)) (da_cons (de_var (pv 1)) da_nil))))
    (db_cons (ds_if (dt_not (dt_tru (de_call D_is_way (hr.mono (by decide)) (by rfl) (da_cons (de_var (pv 2)) (da_cons (de_var (pv 1)) da_nil)))))
    (db_one ds_no) db_nil)
    (db_one (ds_if (dt_le (de_add (de_index (de_index (de_look (pv 0)) (de_index (de_index (de_look (pv 1)) (de_index (de_look (pv 2)) de_int)) de_int)) de_int) (de_callB (call_sumX rfl) fn_sum (by rfl) z.sum bt_sum (da_cons (de_top (de_lc (own := [("own", 3)]) rfl sc_accept_late.nd (di_seq (de_look (pv 2))) (by exact blkOk_by (N := N_accept_late) (sc := defScope s_accept_late) (by decide +kernel)) (fun _ _ _ _ _ => (dg_name (i := 3) sc_accept_late.nd rfl (by first | exact .inl rfl | exact .inr rfl))) (fun _ _ _ _ _ => dts_nil) (fun _ _ _ _ _ => (de_index (de_index (de_look (pv 1)) (de_look (pv 3))) de_int)))) da_nil))) (de_index (de_index (de_look (pv 0)) (de_index (de_index (de_look (pv 1)) (de_index (de_look (pv 2)) (de_neg de_int))) de_int)) de_int))
    (db_one ds_no) db_nil))))
theorem f_L_told_holds (z : Zs mg) (F : FunD K "_law_told_holds" "_law_told_holds" (defArgs s_L_told_holds) (defBody s_L_told_holds) (defScope s_L_told_holds) [] [] f fd) (D_judge_layers : DefP P w K mg base 5 "judge_layers" (spM true 2 G_judge_layers) []) (D_L_same : DefP P w K mg base 1 "_law_same" (spM true 2 G_L_same) []) (D_count_years : DefP P w K mg base 8 "count_years" (spM true 2 G_count_years) []) (D_accept_years : DefP P w K mg base 5 "accept_years" (spM true 3 G_accept_years) []) (D_bounds_of : DefP P w K mg base 7 "bounds_of" (spM true 2 G_bounds_of) []) (D_accept_ring : DefP P w K mg base 5 "accept_ring" (spM true 3 G_accept_ring) []) (D_accept_late : DefP P w K mg base 5 "accept_late" (spM true 3 G_accept_late) []) : FnG P w K mg base 9 f fd ["spans", "gaps", "rows"] (spM true 3 G_L_told_holds) :=
  def_M (b := m_L_told_holds) F sc_L_told_holds rfl rfl fun cdv A outer s H hr => (db_cons (ds_asg (us := [3]) (de_call D_judge_layers (hr.mono (by decide)) (by rfl) (da_cons (de_var (pv 0)) (da_cons (de_var (pv 1)) da_nil))) (dg_name (i := 3) sc_L_told_holds.nd rfl (by first | exact .inl rfl | exact .inr rfl)))
    (db_cons (ds_if (dt_eq hr.rm (de_look (pv 2)) (de_lst da_nil))
    (db_cons (ds_if (dt_ne hr.rm (de_call D_count_years (hr.mono (by decide)) (by rfl) (da_cons (de_var (pv 0)) (da_cons (de_var (pv 1)) da_nil))) de_int)
    (db_one (ds_ret (de_top de_bl))) db_nil)
    (db_one (ds_ret (de_top (de_or (de_and (de_eq hr.rm (de_index (de_look (pv 3)) de_int) de_str) (de_one (de_is (de_call D_accept_ring (hr.mono (by decide)) (by rfl) (da_cons (de_var (pv 0)) (da_cons (de_var (pv 1)) (da_cons (de_index (de_look (pv 3)) de_int) da_nil)))) de_non))) (de_one (de_and (de_eq hr.rm (de_index (de_look (pv 3)) de_int) de_str) (de_one (de_is (de_call D_accept_late (hr.mono (by decide)) (by rfl) (da_cons (de_var (pv 0)) (da_cons (de_var (pv 1)) (da_cons (de_index (de_look (pv 3)) de_int) da_nil)))) de_non))))))))) db_nil)
    (db_cons (ds_asg (us := [4]) (de_callB call_len fn_len (by rfl) z.len bt_len (da_cons (de_look (pv 0)) da_nil)) (dg_name (i := 4) sc_L_told_holds.nd rfl (by first | exact .inl rfl | exact .inr rfl)))
    (db_cons (ds_asg (us := [5, 6]) (de_tup (da_cons (de_callT (call_tupB _) fn_tuple (by rfl) z.tuple bt_tuple (da_cons (de_top (de_lc (own := [("k", 7)]) rfl sc_L_told_holds.nd (di_range1 (by rfl) z.range (da_cons (de_var (pv 4)) da_nil)) (by exact blkOk_by (N := N_L_told_holds) (sc := defScope s_L_told_holds) (by decide +kernel)) (fun _ _ _ _ _ => (dg_name (i := 7) sc_L_told_holds.nd rfl (by first | exact .inl rfl | exact .inr rfl))) (fun _ _ _ _ _ => dts_nil) (fun _ _ _ _ _ => (de_callB (call_minX rfl hr.rm.units) fn_best (by rfl) z.min bt_min (da_cons (de_top (de_lc (own := [("own", 8)]) rfl sc_L_told_holds.nd (di_seq (de_look (pv 2))) (by exact blkOk_by (N := N_L_told_holds) (sc := relS _ (defScope s_L_told_holds)) (by decide +kernel)) (fun _ _ _ _ _ => (dg_name (i := 8) sc_L_told_holds.nd rfl (by first | exact .inl rfl | exact .inr rfl))) (fun _ _ _ _ _ => dts_nil) (fun _ _ _ _ _ => (de_index (de_look (pv 8)) (de_look (pv 7)))))) da_nil))))) da_nil)) (da_cons (de_callT (call_tupB _) fn_tuple (by rfl) z.tuple bt_tuple (da_cons (de_top (de_lc (own := [("k", 7)]) rfl sc_L_told_holds.nd (di_range1 (by rfl) z.range (da_cons (de_var (pv 4)) da_nil)) (by exact blkOk_by (N := N_L_told_holds) (sc := defScope s_L_told_holds) (by decide +kernel)) (fun _ _ _ _ _ => (dg_name (i := 7) sc_L_told_holds.nd rfl (by first | exact .inl rfl | exact .inr rfl))) (fun _ _ _ _ _ => dts_nil) (fun _ _ _ _ _ => (de_callB (call_maxX rfl hr.rm.units) fn_best (by rfl) z.max bt_max (da_cons (de_top (de_lc (own := [("own", 8)]) rfl sc_L_told_holds.nd (di_seq (de_look (pv 2))) (by exact blkOk_by (N := N_L_told_holds) (sc := relS _ (defScope s_L_told_holds)) (by decide +kernel)) (fun _ _ _ _ _ => (dg_name (i := 8) sc_L_told_holds.nd rfl (by first | exact .inl rfl | exact .inr rfl))) (fun _ _ _ _ _ => dts_nil) (fun _ _ _ _ _ => (de_index (de_look (pv 8)) (de_look (pv 7)))))) da_nil))))) da_nil)) da_nil))) (dg_tupV (dg_tup rfl (dgs_cons (dg_name (i := 5) sc_L_told_holds.nd rfl (by first | exact .inl rfl | exact .inr rfl)) (dgs_cons (dg_name (i := 6) sc_L_told_holds.nd rfl (by first | exact .inl rfl | exact .inr rfl)) dgs_nil)))))
    (db_cons (ds_if (dt_w (dw_or (dt_notin hr.rm (de_look (pv 5)) (de_look (pv 2))) (dw_or (dt_notin hr.rm (de_look (pv 6)) (de_look (pv 2))) (dw_or (dt_ne hr.rm (de_look (pv 3)) (de_tup (da_cons de_str (da_cons (de_var (pv 5)) da_nil)))) (dw_or1 (dt_isnot (de_call D_accept_years (hr.mono (by decide)) (by rfl) (da_cons (de_var (pv 0)) (da_cons (de_var (pv 1)) (da_cons (de_var (pv 6)) da_nil)))) de_non))))))
    (db_one (ds_ret (de_top de_bl))) db_nil)
    (db_one (ds_ret (de_top (de_and (de_call D_L_same (hr.mono (by decide)) (by rfl) (da_cons (de_call D_bounds_of (hr.mono (by decide)) (by rfl) (da_cons (de_var (pv 0)) (da_cons (de_var (pv 1)) da_nil))) (da_cons (de_callT (call_tupB _) fn_tuple (by rfl) z.tuple bt_tuple (da_cons (de_top (de_lc (own := [("k", 7)]) rfl sc_L_told_holds.nd (di_range1 (by rfl) z.range (da_cons (de_var (pv 4)) da_nil)) (by exact blkOk_by (N := N_L_told_holds) (sc := defScope s_L_told_holds) (by decide +kernel)) (fun _ _ _ _ _ => (dg_name (i := 7) sc_L_told_holds.nd rfl (by first | exact .inl rfl | exact .inr rfl))) (fun _ _ _ _ _ => dts_nil) (fun _ _ _ _ _ => (de_tup (da_cons (de_index (de_look (pv 5)) (de_look (pv 7))) (da_cons (de_index (de_look (pv 6)) (de_look (pv 7))) da_nil)))))) da_nil)) da_nil))) (de_one (de_eq hr.rm (de_call D_count_years (hr.mono (by decide)) (by rfl) (da_cons (de_var (pv 0)) (da_cons (de_var (pv 1)) da_nil))) (de_callB call_len fn_len (by rfl) z.len bt_len (da_cons (de_look (pv 2)) da_nil)))))))))))))
theorem f_needless_gaps (z : Zs mg) (F : FunD K "needless_gaps" "needless_gaps" (defArgs s_needless_gaps) (defBody s_needless_gaps) (defScope s_needless_gaps) [] [] f fd) (D_bounds_of : DefP P w K mg base 7 "bounds_of" (spM true 2 G_bounds_of) []) : FnG P w K mg base 8 f fd ["spans", "gaps"] (spM true 2 G_needless_gaps) :=
  def_M (b := m_needless_gaps) F sc_needless_gaps rfl rfl fun cdv A outer s H hr => (db_cons (ds_asg (us := [2]) (de_call D_bounds_of (hr.mono (by decide)) (by rfl) (da_cons (de_var (pv 0)) (da_cons (de_var (pv 1)) da_nil))) (dg_name (i := 2) sc_needless_gaps.nd rfl (by first | exact .inl rfl | exact .inr rfl)))
    (db_one (ds_ret (de_top (de_callT (call_tupB _) fn_tuple (by rfl) z.tuple bt_tuple (da_cons (de_top (de_lc (own := [("at", 3)]) rfl sc_needless_gaps.nd (di_range1 (by rfl) z.range (da_cons (de_callB call_len fn_len (by rfl) z.len bt_len (da_cons (de_look (pv 1)) da_nil)) da_nil)) (by exact blkOk_by (N := N_needless_gaps) (sc := defScope s_needless_gaps) (by decide +kernel)) (fun _ _ _ _ _ => (dg_name (i := 3) sc_needless_gaps.nd rfl (by first | exact .inl rfl | exact .inr rfl))) (fun _ _ _ _ _ => (dts_one (dt_eq hr.rm (de_call D_bounds_of (hr.mono (by decide)) (by rfl) (da_cons (de_var (pv 0)) (da_cons (de_add (de_slice (de_look (pv 1)) do_none (do_some (de_var (pv 3)))) (de_slice (de_look (pv 1)) (do_some (de_add (de_look (pv 3)) de_int)) do_none)) da_nil))) (de_look (pv 2))))) (fun _ _ _ _ _ => (de_var (pv 3))))) da_nil))))))
theorem f_L_pick (z : Zs mg) (F : FunD K "_law_pick" "_law_pick" (defArgs s_L_pick) (defBody s_L_pick) (defScope s_L_pick) [] [] f fd) (D_L_draw : DefP P w K mg base 1 "_law_draw" (spS true 1 G_L_draw) []) : FnG P w K mg base 2 f fd ["state", "some"] (spS true 1 G_L_pick) :=
  def_S (b := m_L_pick) F sc_L_pick rfl rfl fun cdv A outer s H hr => (db_one (ds_ret (de_top (de_index (de_look (pv 1)) (de_callS D_L_draw (hr.mono (by decide)) (by rfl) (pv 0) (da_cons (de_callB call_len fn_len (by rfl) z.len bt_len (da_cons (de_look (pv 1)) da_nil)) da_nil))))))
theorem f_least_gap (z : Zs mg) (F : FunD K "least_gap" "least_gap" (defArgs s_least_gap) (defBody s_least_gap) (defScope s_least_gap) [] [] f fd) (D_check_right : DefP P w K mg base 6 "check_right" (spM true 2 G_check_right) []) (D_bounds_of : DefP P w K mg base 7 "bounds_of" (spM true 2 G_bounds_of) []) (D_is_integer : DefP P w K mg base 1 "is_integer" (spM true 1 G_is_integer) []) (D_judge_layers : DefP P w K mg base 5 "judge_layers" (spM true 2 G_judge_layers) []) : FnG P w K mg base 8 f fd ["spans", "gaps", "one", "other"] (spM true 4 G_least_gap) :=
  def_M (b := m_least_gap) F sc_least_gap rfl rfl fun cdv A outer s H hr => (db_cons (ds_drop (de_call D_check_right (hr.mono (by decide)) (by rfl) (da_cons (de_var (pv 0)) (da_cons (de_var (pv 1)) da_nil))))
    (db_cons (ds_for (us := [4, 5]) PassesOwn.never rfl (di_seq (de_tup (da_cons (de_tup (da_cons de_str (da_cons (de_var (pv 2)) da_nil))) (da_cons (de_tup (da_cons de_str (da_cons (de_var (pv 3)) da_nil))) da_nil)))) (dg_tupV (dg_tup rfl (dgs_cons (dg_name (i := 4) sc_least_gap.nd rfl (by first | exact .inl rfl | exact .inr rfl)) (dgs_cons (dg_name (i := 5) sc_least_gap.nd rfl (by first | exact .inl rfl | exact .inr rfl)) dgs_nil))))
    (db_one (ds_if (dt_w (dw_or (dt_not (dt_tru (de_call D_is_integer (hr.mono (by decide)) (by rfl) (da_cons (de_var (pv 5)) da_nil)))) (dw_or1 (dt_not (dt_ch2 op_le op_lt op_cmp' op_cmp' de_int (de_look (pv 5)) (de_callB call_len fn_len (by rfl) z.len bt_len (da_cons (de_look (pv 0)) da_nil)))))))
    (db_one ds_no) db_nil)))
    (db_cons (ds_asg (us := [6, 7]) (de_index (de_call D_bounds_of (hr.mono (by decide)) (by rfl) (da_cons (de_var (pv 0)) (da_cons (de_var (pv 1)) da_nil))) (de_look (pv 2))) (dg_tupV (dg_tup rfl (dgs_cons (dg_name (i := 6) sc_least_gap.nd rfl (by first | exact .inl rfl | exact .inr rfl)) (dgs_cons (dg_name (i := 7) sc_least_gap.nd rfl (by first | exact .inl rfl | exact .inr rfl)) dgs_nil)))))
    (db_cons (ds_own (i := 8) sc_least_gap.nd rfl (by first | exact .inl rfl | exact .inr rfl) (df_lst da_nil))
    (db_cons (ds_for (us := [9]) PassesOwn.never rfl (di_seq (de_tup (da_cons (de_var (pv 6)) (da_cons (de_var (pv 7)) da_nil)))) (dg_name (i := 9) sc_least_gap.nd rfl (by first | exact .inl rfl | exact .inr rfl))
    (db_cons (ds_asg (us := [10]) (de_add (de_add (de_slice (de_look (pv 0)) do_none (do_some (de_var (pv 2)))) (de_tup (da_cons (de_tup (da_cons (de_var (pv 9)) (da_cons (de_var (pv 9)) da_nil))) da_nil))) (de_slice (de_look (pv 0)) (do_some (de_add (de_look (pv 2)) de_int)) do_none)) (dg_name (i := 10) sc_least_gap.nd rfl (by first | exact .inl rfl | exact .inr rfl)))
    (db_one (ds_append (pv 8) (de_sub (de_index (de_index (de_call D_judge_layers (hr.mono (by decide)) (by rfl) (da_cons (de_var (pv 10)) (da_cons (de_var (pv 1)) da_nil))) de_int) (de_look (pv 3))) (de_look (pv 9)))))))
    (db_one (ds_ret (de_top (de_callB (call_minX rfl hr.rm.units) fn_best (by rfl) z.min bt_min (da_cons (de_look (pv 8)) da_nil))))))))))
theorem f_L_gaps_hold (z : Zs mg) (F : FunD K "_law_gaps_hold" "_law_gaps_hold" (defArgs s_L_gaps_hold) (defBody s_L_gaps_hold) (defScope s_L_gaps_hold) [] [] f fd) (D_bounds_of : DefP P w K mg base 7 "bounds_of" (spM true 2 G_bounds_of) []) (D_needless_gaps : DefP P w K mg base 8 "needless_gaps" (spM true 2 G_needless_gaps) []) (D_L_draw : DefP P w K mg base 1 "_law_draw" (spS true 1 G_L_draw) []) (D_L_pick : DefP P w K mg base 2 "_law_pick" (spS true 1 G_L_pick) []) (D_least_gap : DefP P w K mg base 8 "least_gap" (spM true 4 G_least_gap) []) (D_L_told_holds : DefP P w K mg base 9 "_law_told_holds" (spM true 3 G_L_told_holds) []) (D_accept_years : DefP P w K mg base 5 "accept_years" (spM true 3 G_accept_years) []) : FnG P w K mg base 10 f fd ["state", "spans", "gaps", "rows"] (spS true 3 G_L_gaps_hold) :=
  def_S (b := m_L_gaps_hold) F sc_L_gaps_hold rfl rfl fun cdv A outer s H hr => (db_cons (ds_asg (us := [4]) (de_callB call_len fn_len (by rfl) z.len bt_len (da_cons (de_look (pv 1)) da_nil)) (dg_name (i := 4) sc_L_gaps_hold.nd rfl (by first | exact .inl rfl | exact .inr rfl)))
    (db_cons (ds_asg (us := [5]) (de_lc (own := [("one", 12)]) rfl sc_L_gaps_hold.nd (di_range1 (by rfl) z.range (da_cons (de_var (pv 4)) da_nil)) (by exact blkOk_by (N := N_L_gaps_hold) (sc := defScope s_L_gaps_hold) (by decide +kernel)) (fun _ _ _ _ _ => (dg_name (i := 12) sc_L_gaps_hold.nd rfl (by first | exact .inl rfl | exact .inr rfl))) (fun _ _ _ _ _ => dts_nil) (fun _ _ _ _ _ => (de_lc (own := [("other", 13)]) rfl sc_L_gaps_hold.nd (di_range1 (by rfl) z.range (da_cons (de_var (pv 4)) da_nil)) (by exact blkOk_by (N := N_L_gaps_hold) (sc := relS _ (defScope s_L_gaps_hold)) (by decide +kernel)) (fun _ _ _ _ _ => (dg_name (i := 13) sc_L_gaps_hold.nd rfl (by first | exact .inl rfl | exact .inr rfl))) (fun _ _ _ _ _ => dts_nil) (fun _ _ _ _ _ => (de_call D_least_gap (hr.mono (by decide)) (by rfl) (da_cons (de_var (pv 1)) (da_cons (de_var (pv 2)) (da_cons (de_var (pv 12)) (da_cons (de_var (pv 13)) da_nil))))))))) (dg_name (i := 5) sc_L_gaps_hold.nd rfl (by first | exact .inl rfl | exact .inr rfl)))
    (db_cons (ds_if (dt_ne hr.rm (de_look (pv 5)) (de_lc (own := [("one", 12)]) rfl sc_L_gaps_hold.nd (di_range1 (by rfl) z.range (da_cons (de_var (pv 4)) da_nil)) (by exact blkOk_by (N := N_L_gaps_hold) (sc := defScope s_L_gaps_hold) (by decide +kernel)) (fun _ _ _ _ _ => (dg_name (i := 12) sc_L_gaps_hold.nd rfl (by first | exact .inl rfl | exact .inr rfl))) (fun _ _ _ _ _ => dts_nil) (fun _ _ _ _ _ => (de_lc (own := [("other", 13)]) rfl sc_L_gaps_hold.nd (di_range1 (by rfl) z.range (da_cons (de_var (pv 4)) da_nil)) (by exact blkOk_by (N := N_L_gaps_hold) (sc := relS _ (defScope s_L_gaps_hold)) (by decide +kernel)) (fun _ _ _ _ _ => (dg_name (i := 13) sc_L_gaps_hold.nd rfl (by first | exact .inl rfl | exact .inr rfl))) (fun _ _ _ _ _ => dts_nil) (fun _ _ _ _ _ => (de_callB (call_minX rfl hr.rm.units) fn_best (by rfl) z.min bt_min (da_cons (de_top (de_lc (own := [("own", 15)]) rfl sc_L_gaps_hold.nd (di_seq (de_look (pv 3))) (by exact blkOk_by (N := N_L_gaps_hold) (sc := relS _ (relS _ (defScope s_L_gaps_hold))) (by decide +kernel)) (fun _ _ _ _ _ => (dg_name (i := 15) sc_L_gaps_hold.nd rfl (by first | exact .inl rfl | exact .inr rfl))) (fun _ _ _ _ _ => dts_nil) (fun _ _ _ _ _ => (de_sub (de_index (de_look (pv 15)) (de_look (pv 13))) (de_index (de_look (pv 15)) (de_look (pv 12))))))) da_nil)))))))
    (db_one (ds_ret (de_top de_bl))) db_nil)
    (db_cons (ds_asg (us := [6, 7, 8]) (de_lc (own := [("k", 11)]) rfl sc_L_gaps_hold.nd (di_range1 (by rfl) z.range (da_cons de_int da_nil)) (by exact blkOk_by (N := N_L_gaps_hold) (sc := defScope s_L_gaps_hold) (by decide +kernel)) (fun _ _ _ _ _ => (dg_name (i := 11) sc_L_gaps_hold.nd rfl (by first | exact .inl rfl | exact .inr rfl))) (fun _ _ _ _ _ => dts_nil) (fun _ _ _ _ _ => (de_callS D_L_draw (hr.mono (by decide)) (by rfl) (pv 0) (da_cons (de_var (pv 4)) da_nil)))) (dg_unl rfl (dgs_cons (dg_name (i := 6) sc_L_gaps_hold.nd rfl (by first | exact .inl rfl | exact .inr rfl)) (dgs_cons (dg_name (i := 7) sc_L_gaps_hold.nd rfl (by first | exact .inl rfl | exact .inr rfl)) (dgs_cons (dg_name (i := 8) sc_L_gaps_hold.nd rfl (by first | exact .inl rfl | exact .inr rfl)) dgs_nil)))))
    (db_cons (ds_if (dt_w (dw_or (dt_lt (de_index (de_index (de_look (pv 5)) (de_look (pv 6))) (de_look (pv 8))) (de_add (de_index (de_index (de_look (pv 5)) (de_look (pv 6))) (de_look (pv 7))) (de_index (de_index (de_look (pv 5)) (de_look (pv 7))) (de_look (pv 8))))) (dw_or1 (dt_ne hr.rm (de_index (de_index (de_look (pv 5)) (de_look (pv 6))) (de_look (pv 6))) de_int))))
    (db_one (ds_ret (de_top de_bl))) db_nil)
    (db_cons (ds_asg (us := [9]) (de_call D_bounds_of (hr.mono (by decide)) (by rfl) (da_cons (de_var (pv 1)) (da_cons (de_var (pv 2)) da_nil))) (dg_name (i := 9) sc_L_gaps_hold.nd rfl (by first | exact .inl rfl | exact .inr rfl)))
    (db_cons (ds_if (dt_ne hr.rm (de_look (pv 6)) (de_look (pv 7)))
    (db_cons (ds_if (dt_w (dw_or (dt_ne hr.rm (de_call D_bounds_of (hr.mono (by decide)) (by rfl) (da_cons (de_var (pv 1)) (da_cons (de_add (de_look (pv 2)) (de_tup (da_cons (de_tup (da_cons (de_var (pv 6)) (da_cons (de_var (pv 7)) (da_cons (de_index (de_index (de_look (pv 5)) (de_look (pv 6))) (de_look (pv 7))) da_nil)))) da_nil))) da_nil))) (de_look (pv 9))) (dw_or1 (dt_notin hr.rm (de_callB call_len fn_len (by rfl) z.len bt_len (da_cons (de_look (pv 2)) da_nil)) (de_call D_needless_gaps (hr.mono (by decide)) (by rfl) (da_cons (de_var (pv 1)) (da_cons (de_add (de_look (pv 2)) (de_tup (da_cons (de_tup (da_cons (de_var (pv 6)) (da_cons (de_var (pv 7)) (da_cons (de_index (de_index (de_look (pv 5)) (de_look (pv 6))) (de_look (pv 7))) da_nil)))) da_nil))) da_nil)))))))
    (db_one (ds_ret (de_top de_bl))) db_nil)
    (db_cons (ds_asg (us := [10]) (de_add (de_look (pv 2)) (de_tup (da_cons (de_tup (da_cons (de_var (pv 6)) (da_cons (de_var (pv 7)) (da_cons (de_add (de_index (de_index (de_look (pv 5)) (de_look (pv 6))) (de_look (pv 7))) de_int) da_nil)))) da_nil))) (dg_name (i := 10) sc_L_gaps_hold.nd rfl (by first | exact .inl rfl | exact .inr rfl)))
    (db_one (ds_if (dt_not (dt_tru (de_call D_L_told_holds (hr.mono (by decide)) (by rfl) (da_cons (de_var (pv 1)) (da_cons (de_var (pv 10)) (da_cons (de_lc (own := [("own", 15)]) rfl sc_L_gaps_hold.nd (di_seq (de_look (pv 3))) (by exact blkOk_by (N := N_L_gaps_hold) (sc := defScope s_L_gaps_hold) (by decide +kernel)) (fun _ _ _ _ _ => (dg_name (i := 15) sc_L_gaps_hold.nd rfl (by first | exact .inl rfl | exact .inr rfl))) (fun _ _ _ _ _ => (dts_one (dt_gt (de_sub (de_index (de_look (pv 15)) (de_look (pv 7))) (de_index (de_look (pv 15)) (de_look (pv 6)))) (de_index (de_index (de_look (pv 5)) (de_look (pv 6))) (de_look (pv 7)))))) (fun _ _ _ _ _ => (de_var (pv 15)))) da_nil))))))
    (db_one (ds_ret (de_top de_bl))) db_nil)))) db_nil)
    (db_cons (ds_for (us := [11]) PassesOwn.never rfl (di_seq (de_call D_needless_gaps (hr.mono (by decide)) (by rfl) (da_cons (de_var (pv 1)) (da_cons (de_var (pv 2)) da_nil)))) (dg_name (i := 11) sc_L_gaps_hold.nd rfl (by first | exact .inl rfl | exact .inr rfl))
    (db_one (ds_if (dt_ne hr.rm (de_call D_bounds_of (hr.mono (by decide)) (by rfl) (da_cons (de_var (pv 1)) (da_cons (de_add (de_slice (de_look (pv 2)) do_none (do_some (de_var (pv 11)))) (de_slice (de_look (pv 2)) (do_some (de_add (de_look (pv 11)) de_int)) do_none)) da_nil))) (de_look (pv 9)))
    (db_one (ds_ret (de_top de_bl))) db_nil)))
    (db_cons (ds_asg (us := [12, 13]) (de_tup (da_cons (de_callS D_L_pick (hr.mono (by decide)) (by rfl) (pv 0) (da_cons (de_var (pv 3)) da_nil)) (da_cons (de_callS D_L_pick (hr.mono (by decide)) (by rfl) (pv 0) (da_cons (de_var (pv 3)) da_nil)) da_nil))) (dg_tupV (dg_tup rfl (dgs_cons (dg_name (i := 12) sc_L_gaps_hold.nd rfl (by first | exact .inl rfl | exact .inr rfl)) (dgs_cons (dg_name (i := 13) sc_L_gaps_hold.nd rfl (by first | exact .inl rfl | exact .inr rfl)) dgs_nil)))))
    (db_cons (ds_asg (us := [14]) (de_lst (da_cons (de_callT (call_tupB _) fn_tuple (by rfl) z.tuple bt_tuple (da_cons (de_top (de_lc (own := [("k", 11)]) rfl sc_L_gaps_hold.nd (di_range1 (by rfl) z.range (da_cons (de_var (pv 4)) da_nil)) (by exact blkOk_by (N := N_L_gaps_hold) (sc := defScope s_L_gaps_hold) (by decide +kernel)) (fun _ _ _ _ _ => (dg_name (i := 11) sc_L_gaps_hold.nd rfl (by first | exact .inl rfl | exact .inr rfl))) (fun _ _ _ _ _ => dts_nil) (fun _ _ _ _ _ => (de_callB (call_minX rfl hr.rm.units) fn_best (by rfl) z.min bt_min (da_cons (de_top (de_lst (da_cons (de_index (de_look (pv 12)) (de_look (pv 11))) (da_cons (de_index (de_look (pv 13)) (de_look (pv 11))) da_nil)))) da_nil))))) da_nil)) (da_cons (de_callT (call_tupB _) fn_tuple (by rfl) z.tuple bt_tuple (da_cons (de_top (de_lc (own := [("k", 11)]) rfl sc_L_gaps_hold.nd (di_range1 (by rfl) z.range (da_cons (de_var (pv 4)) da_nil)) (by exact blkOk_by (N := N_L_gaps_hold) (sc := defScope s_L_gaps_hold) (by decide +kernel)) (fun _ _ _ _ _ => (dg_name (i := 11) sc_L_gaps_hold.nd rfl (by first | exact .inl rfl | exact .inr rfl))) (fun _ _ _ _ _ => dts_nil) (fun _ _ _ _ _ => (de_callB (call_maxX rfl hr.rm.units) fn_best (by rfl) z.max bt_max (da_cons (de_top (de_lst (da_cons (de_index (de_look (pv 12)) (de_look (pv 11))) (da_cons (de_index (de_look (pv 13)) (de_look (pv 11))) da_nil)))) da_nil))))) da_nil)) da_nil))) (dg_name (i := 14) sc_L_gaps_hold.nd rfl (by first | exact .inl rfl | exact .inr rfl)))
    (db_one (ds_ret (de_top (de_eq hr.rm (de_lc (own := [("own", 15)]) rfl sc_L_gaps_hold.nd (di_seq (de_look (pv 14))) (by exact blkOk_by (N := N_L_gaps_hold) (sc := defScope s_L_gaps_hold) (by decide +kernel)) (fun _ _ _ _ _ => (dg_name (i := 15) sc_L_gaps_hold.nd rfl (by first | exact .inl rfl | exact .inr rfl))) (fun _ _ _ _ _ => (dts_one (dt_w (dw_or (dt_notin hr.rm (de_look (pv 15)) (de_look (pv 3))) (dw_or1 (dt_isnot (de_call D_accept_years (hr.mono (by decide)) (by rfl) (da_cons (de_var (pv 1)) (da_cons (de_var (pv 2)) (da_cons (de_var (pv 15)) da_nil)))) de_non)))))) (fun _ _ _ _ _ => (de_var (pv 15)))) (de_lst da_nil)))))))))))))))
theorem f_law (z : Zs mg) (F : FunD K "law" "law" (defArgs s_law) (defBody s_law) (defScope s_law) [] [] f fd) (hm : Good 20 m_law) (D_start : DefP P w K mg base 1 "_law_start" (spStart K) []) (D_L_finds : DefP P w K mg base 2 "_law_finds" (spS true 1 G_L_finds) []) (D_L_all_years : DefP P w K mg base 1 "_law_all_years" (spM true 2 G_L_all_years) []) (D_L_order : DefP P w K mg base 2 "_law_order" (spS true 1 G_L_order) []) (D_L_draw : DefP P w K mg base 1 "_law_draw" (spS true 1 G_L_draw) []) (D_L_told_holds : DefP P w K mg base 9 "_law_told_holds" (spM true 3 G_L_told_holds) []) (D_L_gaps_hold : DefP P w K mg base 10 "_law_gaps_hold" (spS true 3 G_L_gaps_hold) []) : FnG P w K mg base 11 f fd ["script"] (spLaw K) :=
  fng_funD F sc_law (fun vs H Q h => by obtain ⟨a, ns, rfl, _⟩ := h; rfl) fun cdv A outer s H vs Q hr hsp => ⟨_, pss_cons (ps_set (i := 1) sc_law.nd rfl (by first | exact .inl rfl | exact .inr rfl) (pe_start D_start (hr.mono (by decide)) (by rfl) (pa_cons (pv 0) pa_nil)))
    (db_cons (ds_for (us := [2]) PassesOwn.never rfl (di_range1 (by rfl) z.range (da_cons de_int da_nil)) (dg_name (i := 2) sc_law.nd rfl (by first | exact .inl rfl | exact .inr rfl))
    (db_cons (ds_asg (us := [3]) (de_add de_int (de_callS D_L_draw (hr.mono (by decide)) (by rfl) (pv 1) (da_cons de_int da_nil))) (dg_name (i := 3) sc_law.nd rfl (by first | exact .inl rfl | exact .inr rfl)))
    (db_cons (ds_asg (us := [4, 5]) (de_callS D_L_finds (hr.mono (by decide)) (by rfl) (pv 1) (da_cons (de_var (pv 3)) da_nil)) (dg_tupV (dg_tup rfl (dgs_cons (dg_name (i := 4) sc_law.nd rfl (by first | exact .inl rfl | exact .inr rfl)) (dgs_cons (dg_name (i := 5) sc_law.nd rfl (by first | exact .inl rfl | exact .inr rfl)) dgs_nil)))))
    (db_cons (ds_asg (us := [6]) (de_call D_L_all_years (hr.mono (by decide)) (by rfl) (da_cons (de_var (pv 4)) (da_cons (de_var (pv 5)) da_nil))) (dg_name (i := 6) sc_law.nd rfl (by first | exact .inl rfl | exact .inr rfl)))
    (db_cons (ds_if (dt_w (dw_or (dt_not (dt_tru (de_call D_L_told_holds (hr.mono (by decide)) (by rfl) (da_cons (de_var (pv 4)) (da_cons (de_var (pv 5)) (da_cons (de_var (pv 6)) da_nil)))))) (dw_or1 (dt_w (dw_and (dt_tru (de_look (pv 6))) (dw_and1 (dt_not (dt_tru (de_callS D_L_gaps_hold (hr.mono (by decide)) (by rfl) (pv 1) (da_cons (de_var (pv 4)) (da_cons (de_var (pv 5)) (da_cons (de_var (pv 6)) da_nil))))))))))))
    (db_one (ds_ret (de_top de_bl))) db_nil)
    (db_cons (ds_asg (us := [7]) (de_sub (de_callS D_L_draw (hr.mono (by decide)) (by rfl) (pv 1) (da_cons de_int da_nil)) de_int) (dg_name (i := 7) sc_law.nd rfl (by first | exact .inl rfl | exact .inr rfl)))
    (db_cons (ds_asg (us := [8]) (de_callT (call_tupB _) fn_tuple (by rfl) z.tuple bt_tuple (da_cons (de_top (de_lc (own := [("one", 18), ("other", 19)]) rfl sc_law.nd (di_seq (de_look (pv 4))) (by exact blkOk_by (N := N_law) (sc := defScope s_law) (by decide +kernel)) (fun _ _ _ _ _ => (dg_tupV (dg_tup rfl (dgs_cons (dg_name (i := 18) sc_law.nd rfl (by first | exact .inl rfl | exact .inr rfl)) (dgs_cons (dg_name (i := 19) sc_law.nd rfl (by first | exact .inl rfl | exact .inr rfl)) dgs_nil))))) (fun _ _ _ _ _ => dts_nil) (fun _ _ _ _ _ => (de_tup (da_cons (de_add (de_look (pv 18)) (de_look (pv 7))) (da_cons (de_add (de_look (pv 19)) (de_look (pv 7))) da_nil)))))) da_nil)) (dg_name (i := 8) sc_law.nd rfl (by first | exact .inl rfl | exact .inr rfl)))
    (db_cons (ds_if (dt_not (dt_tru (de_call D_L_told_holds (hr.mono (by decide)) (by rfl) (da_cons (de_var (pv 8)) (da_cons (de_var (pv 5)) (da_cons (de_lc (own := [("row", 20)]) rfl sc_law.nd (di_seq (de_look (pv 6))) (by exact blkOk_by (N := N_law) (sc := defScope s_law) (by decide +kernel)) (fun _ _ _ _ _ => (dg_name (i := 20) sc_law.nd rfl (by first | exact .inl rfl | exact .inr rfl))) (fun _ _ _ _ _ => dts_nil) (fun _ _ _ _ _ => (de_callT (call_tupB _) fn_tuple (by rfl) z.tuple bt_tuple (da_cons (de_top (de_lc (own := [("own", 17)]) rfl sc_law.nd (di_seq (de_look (pv 20))) (by exact blkOk_by (N := N_law) (sc := relS _ (defScope s_law)) (by decide +kernel)) (fun _ _ _ _ _ => (dg_name (i := 17) sc_law.nd rfl (by first | exact .inl rfl | exact .inr rfl))) (fun _ _ _ _ _ => dts_nil) (fun _ _ _ _ _ => (de_add (de_look (pv 17)) (de_look (pv 7)))))) da_nil)))) da_nil))))))
    (db_one (ds_ret (de_top de_bl))) db_nil)
    (db_cons (ds_par (i := 9) (j := 10) rfl sc_law.nd rfl rfl (by decide) rfl rfl (da_cons (de_callT (call_tupB _) fn_tuple (by rfl) z.tuple bt_tuple (da_cons (de_top (de_lc (own := [("one", 18), ("other", 19)]) rfl sc_law.nd (di_seq (de_look (pv 4))) (by exact blkOk_by (N := N_law) (sc := defScope s_law) (by decide +kernel)) (fun _ _ _ _ _ => (dg_tupV (dg_tup rfl (dgs_cons (dg_name (i := 18) sc_law.nd rfl (by first | exact .inl rfl | exact .inr rfl)) (dgs_cons (dg_name (i := 19) sc_law.nd rfl (by first | exact .inl rfl | exact .inr rfl)) dgs_nil))))) (fun _ _ _ _ _ => dts_nil) (fun _ _ _ _ _ => (de_tup (da_cons (de_sub de_int (de_look (pv 19))) (da_cons (de_sub de_int (de_look (pv 18))) da_nil)))))) da_nil)) (da_cons (de_callT (call_tupB _) fn_tuple (by rfl) z.tuple bt_tuple (da_cons (de_top (de_lc (own := [("one", 18), ("other", 19), ("years", 21)]) rfl sc_law.nd (di_seq (de_look (pv 5))) (by exact blkOk_by (N := N_law) (sc := defScope s_law) (by decide +kernel)) (fun _ _ _ _ _ => (dg_tupV (dg_tup rfl (dgs_cons (dg_name (i := 18) sc_law.nd rfl (by first | exact .inl rfl | exact .inr rfl)) (dgs_cons (dg_name (i := 19) sc_law.nd rfl (by first | exact .inl rfl | exact .inr rfl)) (dgs_cons (dg_name (i := 21) sc_law.nd rfl (by first | exact .inl rfl | exact .inr rfl)) dgs_nil)))))) (fun _ _ _ _ _ => dts_nil) (fun _ _ _ _ _ => (de_tup (da_cons (de_var (pv 19)) (da_cons (de_var (pv 18)) (da_cons (de_var (pv 21)) da_nil))))))) da_nil)) da_nil)) (by rfl))
    (db_cons (ds_if (dt_not (dt_tru (de_call D_L_told_holds (hr.mono (by decide)) (by rfl) (da_cons (de_var (pv 9)) (da_cons (de_var (pv 10)) (da_cons (de_lc (own := [("row", 20)]) rfl sc_law.nd (di_seq (de_look (pv 6))) (by exact blkOk_by (N := N_law) (sc := defScope s_law) (by decide +kernel)) (fun _ _ _ _ _ => (dg_name (i := 20) sc_law.nd rfl (by first | exact .inl rfl | exact .inr rfl))) (fun _ _ _ _ _ => dts_nil) (fun _ _ _ _ _ => (de_callT (call_tupB _) fn_tuple (by rfl) z.tuple bt_tuple (da_cons (de_top (de_lc (own := [("own", 17)]) rfl sc_law.nd (di_seq (de_look (pv 20))) (by exact blkOk_by (N := N_law) (sc := relS _ (defScope s_law)) (by decide +kernel)) (fun _ _ _ _ _ => (dg_name (i := 17) sc_law.nd rfl (by first | exact .inl rfl | exact .inr rfl))) (fun _ _ _ _ _ => dts_nil) (fun _ _ _ _ _ => (de_sub de_int (de_look (pv 17)))))) da_nil)))) da_nil))))))
    (db_one (ds_ret (de_top de_bl))) db_nil)
    (db_cons (ds_asg (us := [11]) (de_callS D_L_order (hr.mono (by decide)) (by rfl) (pv 1) (da_cons (de_listRg rfl (by rfl) z.list (by rfl) z.range (de_look (pv 3))) da_nil)) (dg_name (i := 11) sc_law.nd rfl (by first | exact .inl rfl | exact .inr rfl)))
    (db_cons (ds_asg (us := [12]) (de_lc (own := [("own", 17)]) rfl sc_law.nd (di_range1 (by rfl) z.range (da_cons (de_var (pv 3)) da_nil)) (by exact blkOk_by (N := N_law) (sc := defScope s_law) (by decide +kernel)) (fun _ _ _ _ _ => (dg_name (i := 17) sc_law.nd rfl (by first | exact .inl rfl | exact .inr rfl))) (fun _ _ _ _ _ => dts_nil) (fun _ _ _ _ _ => (de_lindex (de_look (pv 11)) (de_look (pv 17))))) (dg_name (i := 12) sc_law.nd rfl (by first | exact .inl rfl | exact .inr rfl)))
    (db_cons (ds_if (dt_not (dt_tru (de_call D_L_told_holds (hr.mono (by decide)) (by rfl) (da_cons (de_callT (call_tupB _) fn_tuple (by rfl) z.tuple bt_tuple (da_cons (de_top (de_lc (own := [("own", 17)]) rfl sc_law.nd (di_seq (de_look (pv 11))) (by exact blkOk_by (N := N_law) (sc := defScope s_law) (by decide +kernel)) (fun _ _ _ _ _ => (dg_name (i := 17) sc_law.nd rfl (by first | exact .inl rfl | exact .inr rfl))) (fun _ _ _ _ _ => dts_nil) (fun _ _ _ _ _ => (de_index (de_look (pv 4)) (de_look (pv 17)))))) da_nil)) (da_cons (de_callT (call_tupB _) fn_tuple (by rfl) z.tuple bt_tuple (da_cons (de_top (de_lc (own := [("one", 18), ("other", 19), ("years", 21)]) rfl sc_law.nd (di_seq (de_look (pv 5))) (by exact blkOk_by (N := N_law) (sc := defScope s_law) (by decide +kernel)) (fun _ _ _ _ _ => (dg_tupV (dg_tup rfl (dgs_cons (dg_name (i := 18) sc_law.nd rfl (by first | exact .inl rfl | exact .inr rfl)) (dgs_cons (dg_name (i := 19) sc_law.nd rfl (by first | exact .inl rfl | exact .inr rfl)) (dgs_cons (dg_name (i := 21) sc_law.nd rfl (by first | exact .inl rfl | exact .inr rfl)) dgs_nil)))))) (fun _ _ _ _ _ => dts_nil) (fun _ _ _ _ _ => (de_tup (da_cons (de_index (de_look (pv 12)) (de_look (pv 18))) (da_cons (de_index (de_look (pv 12)) (de_look (pv 19))) (da_cons (de_var (pv 21)) da_nil))))))) da_nil)) (da_cons (de_lc (own := [("row", 20)]) rfl sc_law.nd (di_seq (de_look (pv 6))) (by exact blkOk_by (N := N_law) (sc := defScope s_law) (by decide +kernel)) (fun _ _ _ _ _ => (dg_name (i := 20) sc_law.nd rfl (by first | exact .inl rfl | exact .inr rfl))) (fun _ _ _ _ _ => dts_nil) (fun _ _ _ _ _ => (de_callT (call_tupB _) fn_tuple (by rfl) z.tuple bt_tuple (da_cons (de_top (de_lc (own := [("own", 17)]) rfl sc_law.nd (di_seq (de_look (pv 11))) (by exact blkOk_by (N := N_law) (sc := relS _ (defScope s_law)) (by decide +kernel)) (fun _ _ _ _ _ => (dg_name (i := 17) sc_law.nd rfl (by first | exact .inl rfl | exact .inr rfl))) (fun _ _ _ _ _ => dts_nil) (fun _ _ _ _ _ => (de_index (de_look (pv 20)) (de_look (pv 17)))))) da_nil)))) da_nil))))))
    (db_one (ds_ret (de_top de_bl))) db_nil)
    (db_cons (ds_asg (us := [13]) (de_callS D_L_finds (hr.mono (by decide)) (by rfl) (pv 1) (da_cons (de_add de_int (de_callS D_L_draw (hr.mono (by decide)) (by rfl) (pv 1) (da_cons de_int da_nil))) da_nil)) (dg_name (i := 13) sc_law.nd rfl (by first | exact .inl rfl | exact .inr rfl)))
    (db_cons (ds_asg (us := [14]) (de_call D_L_all_years (hr.mono (by decide)) (by rfl) (da_cons (de_index (de_look (pv 13)) de_int) (da_cons (de_index (de_look (pv 13)) de_int) da_nil))) (dg_name (i := 14) sc_law.nd rfl (by first | exact .inl rfl | exact .inr rfl)))
    (db_cons (ds_if (dt_gt (de_mul (de_callB call_len fn_len (by rfl) z.len bt_len (da_cons (de_look (pv 6)) da_nil)) (de_callB call_len fn_len (by rfl) z.len bt_len (da_cons (de_look (pv 14)) da_nil))) de_int)
    (db_one (ds_ret (de_top de_bl))) db_nil)
    (db_cons (ds_parF (i := 15) (j := 16) rfl sc_law.nd rfl rfl (by decide) rfl rfl (av_fr (df_lst da_nil)) (av_esc (de_add (de_look (pv 5)) (de_callT (call_tupB _) fn_tuple (by rfl) z.tuple bt_tuple (da_cons (de_top (de_lc (own := [("one", 18), ("other", 19), ("years", 21)]) rfl sc_law.nd (di_seq (de_top (de_index (de_look (pv 13)) de_int))) (by exact blkOk_by (N := N_law) (sc := defScope s_law) (by decide +kernel)) (fun _ _ _ _ _ => (dg_tupV (dg_tup rfl (dgs_cons (dg_name (i := 18) sc_law.nd rfl (by first | exact .inl rfl | exact .inr rfl)) (dgs_cons (dg_name (i := 19) sc_law.nd rfl (by first | exact .inl rfl | exact .inr rfl)) (dgs_cons (dg_name (i := 21) sc_law.nd rfl (by first | exact .inl rfl | exact .inr rfl)) dgs_nil)))))) (fun _ _ _ _ _ => dts_nil) (fun _ _ _ _ _ => (de_tup (da_cons (de_add (de_look (pv 18)) (de_look (pv 3))) (da_cons (de_add (de_look (pv 19)) (de_look (pv 3))) (da_cons (de_var (pv 21)) da_nil))))))) da_nil)))) (by rfl))
    (db_cons (ds_for (us := [17]) PassesOwn.never rfl (di_seq (de_var (pv 6))) (dg_name (i := 17) sc_law.nd rfl (by first | exact .inl rfl | exact .inr rfl))
    (db_one (ds_extend (pv 15) (de_top (de_lc (own := [("one", 18)]) rfl sc_law.nd (di_seq (de_look (pv 14))) (by exact blkOk_by (N := N_law) (sc := defScope s_law) (by decide +kernel)) (fun _ _ _ _ _ => (dg_name (i := 18) sc_law.nd rfl (by first | exact .inl rfl | exact .inr rfl))) (fun _ _ _ _ _ => dts_nil) (fun _ _ _ _ _ => (de_add (de_look (pv 17)) (de_look (pv 18)))))))))
    (db_one (ds_frz (ds_if (dt_not (dt_tru (de_call D_L_told_holds (hr.mono (by decide)) (by rfl) (da_cons (de_add (de_look (pv 4)) (de_index (de_look (pv 13)) de_int)) (da_cons (de_var (pv 16)) (da_cons (de_var (pv 15)) da_nil))))))
    (db_one (ds_ret (de_top de_bl))) db_nil) 15))))))))))))))))))))
    (db_one (ds_ret (de_top de_bl)))), law_law (β := true) rfl hm hsp⟩
theorem f_start (z : Zs mg) (F : FunD K "_law_start" "_law_start" (defArgs s_L_start) (defBody s_L_start) (defScope s_L_start) [] [] f fd) : FnG P w K mg base 1 f fd ["script"] (spStart K) :=
  fng_funD F sc_L_start (fun vs H Q h => by obtain ⟨a, ns, rfl, _⟩ := h; rfl) fun cdv A outer s H vs Q hr hsp => ⟨tStart K, pss_cons (ds_asg (us := [1]) de_int (dg_name (i := 1) sc_L_start.nd rfl (by first | exact .inl rfl | exact .inr rfl)))
    (pss_cons (ps_for PassesOwn.never rfl (pi_list (pe_slice sl_list (pv 0) po_none (po_some pe_int))) (dg_name (us := [2]) (i := 2) sc_L_start.nd rfl (by first | exact .inl rfl | exact .inr rfl))
      (db_one (ds_asg (us := [1]) (de_add (de_mod (de_callT call_int1 fn_int (by rfl) z.int bt_int (da_cons (de_add (de_mul (de_var (pv 1)) de_int) (de_var (pv 2))) da_nil)) de_int) de_int) (dg_name (i := 1) sc_L_start.nd rfl (by first | exact .inl rfl | exact .inr rfl)))))
    (pss_one (ps_ret (pe_lst (pa_cons (pe_lc (own := [("cell", 2)]) rfl sc_L_start.nd (pi_list (pe_slice sl_list (pv 0) po_none (po_some pe_int))) (by exact blkOk_by (N := N_L_start) (sc := defScope s_L_start) (by decide +kernel)) (fun _ _ _ _ _ => (dg_name (i := 2) sc_L_start.nd rfl (by first | exact .inl rfl | exact .inr rfl))) (fun _ _ _ _ _ => dts_nil)
      (fun _ _ _ _ _ => (de_callB call_abs fn_abs (by rfl) z.abs bt_abs (da_cons (de_callT call_int1 fn_int (by rfl) z.int bt_int (da_cons (de_var (pv 2)) da_nil)) da_nil)))) (da_cons de_int (da_cons de_int (da_cons de_int (da_cons (de_var (pv 1)) (da_cons de_int da_nil)))))))))), start_law hsp⟩
end
end K64

set_option Elab.async false
set_option linter.all false
set_option maxRecDepth 100000
set_option maxHeartbeats 4000000
namespace K64
open PySem PySem.Spec PyProof.Rows L2 Mini
def d_L_start : He.DefD := ⟨("_law_start", none), "_law_start", "_law_start", defArgs s_L_start, defBody s_L_start, defScope s_L_start, [], []⟩
def d_L_draw : He.DefD := ⟨("_law_draw", none), "_law_draw", "_law_draw", defArgs s_L_draw, defBody s_L_draw, defScope s_L_draw, [], []⟩
def d_L_finds : He.DefD := ⟨("_law_finds", none), "_law_finds", "_law_finds", defArgs s_L_finds, defBody s_L_finds, defScope s_L_finds, [], []⟩
def d_L_all_years : He.DefD := ⟨("_law_all_years", none), "_law_all_years", "_law_all_years", defArgs s_L_all_years, defBody s_L_all_years, defScope s_L_all_years, [], []⟩
def d_L_order : He.DefD := ⟨("_law_order", none), "_law_order", "_law_order", defArgs s_L_order, defBody s_L_order, defScope s_L_order, [], []⟩
def d_is_integer : He.DefD := ⟨("is_integer", none), "is_integer", "is_integer", defArgs s_is_integer, defBody s_is_integer, defScope s_is_integer, [], []⟩
def d_is_year : He.DefD := ⟨("is_year", none), "is_year", "is_year", defArgs s_is_year, defBody s_is_year, defScope s_is_year, [], []⟩
def d_is_gap : He.DefD := ⟨("is_gap", none), "is_gap", "is_gap", defArgs s_is_gap, defBody s_is_gap, defScope s_is_gap, [], []⟩
def d_check_layers : He.DefD := ⟨("check_layers", none), "check_layers", "check_layers", defArgs s_check_layers, defBody s_check_layers, defScope s_check_layers, [], []⟩
def d_grown : He.DefD := ⟨("grown", none), "grown", "grown", defArgs s_grown, defBody s_grown, defScope s_grown, [], []⟩
def d_raised_still : He.DefD := ⟨("raised_still", none), "raised_still", "raised_still", defArgs s_raised_still, defBody s_raised_still, defScope s_raised_still, [], []⟩
def d_ring_from : He.DefD := ⟨("ring_from", none), "ring_from", "ring_from", defArgs s_ring_from, defBody s_ring_from, defScope s_ring_from, [], []⟩
def d_way_to : He.DefD := ⟨("way_to", none), "way_to", "way_to", defArgs s_way_to, defBody s_way_to, defScope s_way_to, [], []⟩
def d_judge_layers : He.DefD := ⟨("judge_layers", none), "judge_layers", "judge_layers", defArgs s_judge_layers, defBody s_judge_layers, defScope s_judge_layers, [], []⟩
def d_L_same : He.DefD := ⟨("_law_same", none), "_law_same", "_law_same", defArgs s_L_same, defBody s_L_same, defScope s_L_same, [], []⟩
def d_check_right : He.DefD := ⟨("check_right", none), "check_right", "check_right", defArgs s_check_right, defBody s_check_right, defScope s_check_right, [], []⟩
def d_bounds_of : He.DefD := ⟨("bounds_of", none), "bounds_of", "bounds_of", defArgs s_bounds_of, defBody s_bounds_of, defScope s_bounds_of, [], []⟩
def d_suits : He.DefD := ⟨("suits", none), "suits", "suits", defArgs s_suits, defBody s_suits, defScope s_suits, [], []⟩
def d_count_years : He.DefD := ⟨("count_years", none), "count_years", "count_years", defArgs s_count_years, defBody s_count_years, defScope s_count_years, [], []⟩
def d_accept_years : He.DefD := ⟨("accept_years", none), "accept_years", "accept_years", defArgs s_accept_years, defBody s_accept_years, defScope s_accept_years, [], []⟩
def d_is_way : He.DefD := ⟨("is_way", none), "is_way", "is_way", defArgs s_is_way, defBody s_is_way, defScope s_is_way, [], []⟩
def d_accept_ring : He.DefD := ⟨("accept_ring", none), "accept_ring", "accept_ring", defArgs s_accept_ring, defBody s_accept_ring, defScope s_accept_ring, [], []⟩
def d_accept_late : He.DefD := ⟨("accept_late", none), "accept_late", "accept_late", defArgs s_accept_late, defBody s_accept_late, defScope s_accept_late, [], []⟩
def d_L_told_holds : He.DefD := ⟨("_law_told_holds", none), "_law_told_holds", "_law_told_holds", defArgs s_L_told_holds, defBody s_L_told_holds, defScope s_L_told_holds, [], []⟩
def d_needless_gaps : He.DefD := ⟨("needless_gaps", none), "needless_gaps", "needless_gaps", defArgs s_needless_gaps, defBody s_needless_gaps, defScope s_needless_gaps, [], []⟩
def d_L_pick : He.DefD := ⟨("_law_pick", none), "_law_pick", "_law_pick", defArgs s_L_pick, defBody s_L_pick, defScope s_L_pick, [], []⟩
def d_least_gap : He.DefD := ⟨("least_gap", none), "least_gap", "least_gap", defArgs s_least_gap, defBody s_least_gap, defScope s_least_gap, [], []⟩
def d_L_gaps_hold : He.DefD := ⟨("_law_gaps_hold", none), "_law_gaps_hold", "_law_gaps_hold", defArgs s_L_gaps_hold, defBody s_L_gaps_hold, defScope s_L_gaps_hold, [], []⟩
def d_law : He.DefD := ⟨("law", none), "law", "law", defArgs s_law, defBody s_law, defScope s_law, [], []⟩
def fn_0 : List He.DefD := [d_L_start, d_L_draw, d_L_finds, d_L_all_years, d_L_order, d_is_integer, d_is_year, d_is_gap, d_check_layers, d_grown, d_raised_still, d_ring_from, d_way_to, d_judge_layers, d_L_same, d_check_right, d_bounds_of, d_suits, d_count_years, d_accept_years, d_is_way, d_accept_ring, d_accept_late, d_L_told_holds, d_needless_gaps, d_L_pick, d_least_gap, d_L_gaps_hold, d_law]
def fn : List He.DefD := fn_0
def fa_0 : List He.Fa := [.glo "_law_start", .glo "_law_draw", .glo "_law_finds", .glo "_law_all_years", .glo "_law_order", .glo "is_integer", .glo "is_year", .glo "is_gap", .glo "check_layers", .glo "grown", .glo "raised_still", .glo "ring_from", .glo "way_to", .glo "judge_layers", .glo "_law_same", .glo "check_right", .glo "bounds_of", .glo "suits", .glo "count_years", .glo "accept_years", .glo "is_way", .glo "accept_ring", .glo "accept_late", .glo "_law_told_holds", .glo "needless_gaps", .glo "_law_pick", .glo "least_gap", .glo "_law_gaps_hold", .glo "law", .free "abs"]
def fa_1 : List He.Fa := [.free "all", .free "bool", .free "enumerate", .free "int", .free "isinstance", .free "len", .free "list", .free "max", .free "min", .free "range", .free "repr", .free "sum", .free "tuple", .free "zip", .int "MAX_YEARS" 5000, .int "MAX_LOOKED" 20000, .int "MAX_ROWS" 60, .int "MAX_LAYERS" 30]
def fa : List He.Fa := fa_0 ++ fa_1
def loose_0 : List PySem.Str := ["CabinetError", "FindError", "ArgumentError", "PaperError", "TooMany", "is_integer", "MAX_YEARS", "MAX_LOOKED", "MAX_ROWS", "MAX_LAYERS", "check_layers", "is_year", "is_gap", "grown", "raised_still", "judge_layers", "way_to", "ring_from", "is_way", "accept_ring", "accept_late", "accept_years", "check_right", "bounds_of", "least_gap", "count_years", "suits", "needless_gaps", "_law_start", "_law_draw"]
def loose_1 : List PySem.Str := ["_law_pick", "_law_same", "_law_order", "_law_finds", "_law_all_years", "_law_told_holds", "_law_gaps_hold"]
def loose : List PySem.Str := loose_0 ++ loose_1
abbrev R : PySem.W.OpenRow := PySem.W.OpenLaw.row PySem.Challenge.rw_hoardsread_k64_whole_years_between_finds
abbrev hk : PySem.W.Hook := He.hookD 4 fa fn
def ob (s : PySem.W.SharedT) : He.AlD := He.obsDG 4 fa fn (HandSHeadRun.getT s)
theorem ob_eq (s : PySem.W.SharedT) : ob s = hk.obs s.abs := He.obsDG_eq (HandSHeadRun.getT_eq s)
theorem run (w : World) : HandSHeadRun.RunEq R (PySem.W.view R.prog [41]) hk ob 3000 loose w := by
  intro os
  kernel_rfl
theorem facts {P : Program} {w : World} {K : PySem.W.Frag} {h : Heap} {mg : Str → Option Value} {f : Addr} (X : K.In h) (G : h.Ns mainGlobals mg) (hfa : mg ("law" : Str) = some (.ref f)) (c : He.SaysD fa fn K) (hm : Good 20 m_law) :
    ∃ fd : FuncData, (∀ (s : Shared) (v : Value), BindsTo s fd ⟨[v], []⟩ [("script", v)]) ∧ ∀ base : Heap, K.In base → base.Ns mainGlobals mg → FnG P w K mg base 11 f fd ["script"] (spLaw K) := by
  obtain ⟨fd_L_start, F_L_start⟩ := c.def_ 0 (d := d_L_start) rfl
  obtain ⟨fd_L_draw, F_L_draw⟩ := c.def_ 1 (d := d_L_draw) rfl
  obtain ⟨fd_L_finds, F_L_finds⟩ := c.def_ 2 (d := d_L_finds) rfl
  obtain ⟨fd_L_all_years, F_L_all_years⟩ := c.def_ 3 (d := d_L_all_years) rfl
  obtain ⟨fd_L_order, F_L_order⟩ := c.def_ 4 (d := d_L_order) rfl
  obtain ⟨fd_is_integer, F_is_integer⟩ := c.def_ 5 (d := d_is_integer) rfl
  obtain ⟨fd_is_year, F_is_year⟩ := c.def_ 6 (d := d_is_year) rfl
  obtain ⟨fd_is_gap, F_is_gap⟩ := c.def_ 7 (d := d_is_gap) rfl
  obtain ⟨fd_check_layers, F_check_layers⟩ := c.def_ 8 (d := d_check_layers) rfl
  obtain ⟨fd_grown, F_grown⟩ := c.def_ 9 (d := d_grown) rfl
  obtain ⟨fd_raised_still, F_raised_still⟩ := c.def_ 10 (d := d_raised_still) rfl
  obtain ⟨fd_ring_from, F_ring_from⟩ := c.def_ 11 (d := d_ring_from) rfl
  obtain ⟨fd_way_to, F_way_to⟩ := c.def_ 12 (d := d_way_to) rfl
  obtain ⟨fd_judge_layers, F_judge_layers⟩ := c.def_ 13 (d := d_judge_layers) rfl
  obtain ⟨fd_L_same, F_L_same⟩ := c.def_ 14 (d := d_L_same) rfl
  obtain ⟨fd_check_right, F_check_right⟩ := c.def_ 15 (d := d_check_right) rfl
  obtain ⟨fd_bounds_of, F_bounds_of⟩ := c.def_ 16 (d := d_bounds_of) rfl
  obtain ⟨fd_suits, F_suits⟩ := c.def_ 17 (d := d_suits) rfl
  obtain ⟨fd_count_years, F_count_years⟩ := c.def_ 18 (d := d_count_years) rfl
  obtain ⟨fd_accept_years, F_accept_years⟩ := c.def_ 19 (d := d_accept_years) rfl
  obtain ⟨fd_is_way, F_is_way⟩ := c.def_ 20 (d := d_is_way) rfl
  obtain ⟨fd_accept_ring, F_accept_ring⟩ := c.def_ 21 (d := d_accept_ring) rfl
  obtain ⟨fd_accept_late, F_accept_late⟩ := c.def_ 22 (d := d_accept_late) rfl
  obtain ⟨fd_L_told_holds, F_L_told_holds⟩ := c.def_ 23 (d := d_L_told_holds) rfl
  obtain ⟨fd_needless_gaps, F_needless_gaps⟩ := c.def_ 24 (d := d_needless_gaps) rfl
  obtain ⟨fd_L_pick, F_L_pick⟩ := c.def_ 25 (d := d_L_pick) rfl
  obtain ⟨fd_least_gap, F_least_gap⟩ := c.def_ 26 (d := d_least_gap) rfl
  obtain ⟨fd_L_gaps_hold, F_L_gaps_hold⟩ := c.def_ 27 (d := d_L_gaps_hold) rfl
  obtain ⟨fd_law, F_law⟩ := c.def_ 28 (d := d_law) rfl
  have e := hfa.symm.trans (He.glo_ok X G (c.fact 28 (f := .glo "law") rfl))
  cases e
  have b := FunD.bindsA (ps := ["script"]) F_law fun _ _ _ _ _ _ us hl => match us, hl with | [_], _ => rfl
  have z : Zs mg := ⟨He.free_ok X G (c.fact 29 (f := .free "abs") rfl), He.free_ok X G (c.fact 30 (f := .free "all") rfl), He.free_ok X G (c.fact 31 (f := .free "bool") rfl), He.free_ok X G (c.fact 32 (f := .free "enumerate") rfl), He.free_ok X G (c.fact 33 (f := .free "int") rfl), He.free_ok X G (c.fact 34 (f := .free "isinstance") rfl), He.free_ok X G (c.fact 35 (f := .free "len") rfl), He.free_ok X G (c.fact 36 (f := .free "list") rfl), He.free_ok X G (c.fact 37 (f := .free "max") rfl), He.free_ok X G (c.fact 38 (f := .free "min") rfl), He.free_ok X G (c.fact 39 (f := .free "range") rfl), He.free_ok X G (c.fact 40 (f := .free "repr") rfl), He.free_ok X G (c.fact 41 (f := .free "sum") rfl), He.free_ok X G (c.fact 42 (f := .free "tuple") rfl), He.free_ok X G (c.fact 43 (f := .free "zip") rfl), He.int_ok X G (c.fact 44 (f := .int "MAX_YEARS" 5000) rfl), He.int_ok X G (c.fact 45 (f := .int "MAX_LOOKED" 20000) rfl), He.int_ok X G (c.fact 46 (f := .int "MAX_ROWS" 60) rfl), He.int_ok X G (c.fact 47 (f := .int "MAX_LAYERS" 30) rfl)⟩
  refine ⟨fd_law, fun s v => b s [v] rfl, fun base _ _ => ?_⟩
  have D_start : DefP P w K mg base 1 "_law_start" (spStart K) [] := ⟨_, _, _, _, f_start z F_L_start, He.glo_ok X G (c.fact 0 (f := .glo "_law_start") rfl), F_L_start.kp, FunD.bindsN (ps := ["script"]) F_L_start fun _ _ _ _ _ _ us hl => match us, hl with | [_], _ => rfl, .nil⟩
  have D_L_draw : DefP P w K mg base 1 "_law_draw" (spS true 1 G_L_draw) [] := ⟨_, _, _, _, (f_L_draw z F_L_draw ), He.glo_ok X G (c.fact 1 (f := .glo "_law_draw") rfl), F_L_draw.kp, FunD.bindsN (ps := ["state", "many"]) F_L_draw fun _ _ _ _ _ _ us hl => match us, hl with | [_, _], _ => rfl, .nil⟩
  have D_L_finds : DefP P w K mg base 2 "_law_finds" (spS true 1 G_L_finds) [] := ⟨_, _, _, _, (f_L_finds z F_L_finds D_L_draw), He.glo_ok X G (c.fact 2 (f := .glo "_law_finds") rfl), F_L_finds.kp, FunD.bindsN (ps := ["state", "many"]) F_L_finds fun _ _ _ _ _ _ us hl => match us, hl with | [_, _], _ => rfl, .nil⟩
  have D_L_all_years : DefP P w K mg base 1 "_law_all_years" (spM true 2 G_L_all_years) [] := ⟨_, _, _, _, (f_L_all_years z F_L_all_years ), He.glo_ok X G (c.fact 3 (f := .glo "_law_all_years") rfl), F_L_all_years.kp, FunD.bindsN (ps := ["spans", "gaps"]) F_L_all_years fun _ _ _ _ _ _ us hl => match us, hl with | [_, _], _ => rfl, .nil⟩
  have D_L_order : DefP P w K mg base 2 "_law_order" (spS true 1 G_L_order) [] := ⟨_, _, _, _, (f_L_order z F_L_order D_L_draw), He.glo_ok X G (c.fact 4 (f := .glo "_law_order") rfl), F_L_order.kp, FunD.bindsN (ps := ["state", "rows"]) F_L_order fun _ _ _ _ _ _ us hl => match us, hl with | [_, _], _ => rfl, .nil⟩
  have D_is_integer : DefP P w K mg base 1 "is_integer" (spM true 1 G_is_integer) [] := ⟨_, _, _, _, (f_is_integer z F_is_integer ), He.glo_ok X G (c.fact 5 (f := .glo "is_integer") rfl), F_is_integer.kp, FunD.bindsN (ps := ["value"]) F_is_integer fun _ _ _ _ _ _ us hl => match us, hl with | [_], _ => rfl, .nil⟩
  have D_is_year : DefP P w K mg base 2 "is_year" (spM true 1 G_is_year) [] := ⟨_, _, _, _, (f_is_year z F_is_year D_is_integer), He.glo_ok X G (c.fact 6 (f := .glo "is_year") rfl), F_is_year.kp, FunD.bindsN (ps := ["value"]) F_is_year fun _ _ _ _ _ _ us hl => match us, hl with | [_], _ => rfl, .nil⟩
  have D_is_gap : DefP P w K mg base 3 "is_gap" (spM true 2 G_is_gap) [] := ⟨_, _, _, _, (f_is_gap z F_is_gap D_is_year D_is_integer), He.glo_ok X G (c.fact 7 (f := .glo "is_gap") rfl), F_is_gap.kp, FunD.bindsN (ps := ["value", "spans"]) F_is_gap fun _ _ _ _ _ _ us hl => match us, hl with | [_, _], _ => rfl, .nil⟩
  have D_check_layers : DefP P w K mg base 4 "check_layers" (spM true 2 G_check_layers) [] := ⟨_, _, _, _, (f_check_layers z F_check_layers D_is_gap D_is_year), He.glo_ok X G (c.fact 8 (f := .glo "check_layers") rfl), F_check_layers.kp, FunD.bindsN (ps := ["spans", "gaps"]) F_check_layers fun _ _ _ _ _ _ us hl => match us, hl with | [_, _], _ => rfl, .nil⟩
  have D_grown : DefP P w K mg base 1 "grown" (spM true 3 G_grown) [] := ⟨_, _, _, _, (f_grown z F_grown ), He.glo_ok X G (c.fact 9 (f := .glo "grown") rfl), F_grown.kp, FunD.bindsN (ps := ["years", "gaps", "rounds"]) F_grown fun _ _ _ _ _ _ us hl => match us, hl with | [_, _, _], _ => rfl, .nil⟩
  have D_raised_still : DefP P w K mg base 1 "raised_still" (spM true 2 G_raised_still) [] := ⟨_, _, _, _, (f_raised_still z F_raised_still ), He.glo_ok X G (c.fact 10 (f := .glo "raised_still") rfl), F_raised_still.kp, FunD.bindsN (ps := ["years", "gaps"]) F_raised_still fun _ _ _ _ _ _ us hl => match us, hl with | [_, _], _ => rfl, .nil⟩
  have D_ring_from : DefP P w K mg base 2 "ring_from" (spM true 2 G_ring_from) [] := ⟨_, _, _, _, (f_ring_from z F_ring_from D_grown D_raised_still), He.glo_ok X G (c.fact 11 (f := .glo "ring_from") rfl), F_ring_from.kp, FunD.bindsN (ps := ["spans", "gaps"]) F_ring_from fun _ _ _ _ _ _ us hl => match us, hl with | [_, _], _ => rfl, .nil⟩
  have D_way_to : DefP P w K mg base 1 "way_to" (spM true 3 G_way_to) [] := ⟨_, _, _, _, (f_way_to z F_way_to ), He.glo_ok X G (c.fact 12 (f := .glo "way_to") rfl), F_way_to.kp, FunD.bindsN (ps := ["gaps", "told", "at"]) F_way_to fun _ _ _ _ _ _ us hl => match us, hl with | [_, _, _], _ => rfl, .nil⟩
  have D_judge_layers : DefP P w K mg base 5 "judge_layers" (spM true 2 G_judge_layers) [] := ⟨_, _, _, _, (f_judge_layers z F_judge_layers D_check_layers D_grown D_raised_still D_ring_from D_way_to), He.glo_ok X G (c.fact 13 (f := .glo "judge_layers") rfl), F_judge_layers.kp, FunD.bindsN (ps := ["spans", "gaps"]) F_judge_layers fun _ _ _ _ _ _ us hl => match us, hl with | [_, _], _ => rfl, .nil⟩
  have D_L_same : DefP P w K mg base 1 "_law_same" (spM true 2 G_L_same) [] := ⟨_, _, _, _, (f_L_same z F_L_same ), He.glo_ok X G (c.fact 14 (f := .glo "_law_same") rfl), F_L_same.kp, FunD.bindsN (ps := ["actual", "due"]) F_L_same fun _ _ _ _ _ _ us hl => match us, hl with | [_, _], _ => rfl, .nil⟩
  have D_check_right : DefP P w K mg base 6 "check_right" (spM true 2 G_check_right) [] := ⟨_, _, _, _, (f_check_right z F_check_right D_judge_layers), He.glo_ok X G (c.fact 15 (f := .glo "check_right") rfl), F_check_right.kp, FunD.bindsN (ps := ["spans", "gaps"]) F_check_right fun _ _ _ _ _ _ us hl => match us, hl with | [_, _], _ => rfl, .nil⟩
  have D_bounds_of : DefP P w K mg base 7 "bounds_of" (spM true 2 G_bounds_of) [] := ⟨_, _, _, _, (f_bounds_of z F_bounds_of D_check_right D_judge_layers D_grown), He.glo_ok X G (c.fact 16 (f := .glo "bounds_of") rfl), F_bounds_of.kp, FunD.bindsN (ps := ["spans", "gaps"]) F_bounds_of fun _ _ _ _ _ _ us hl => match us, hl with | [_, _], _ => rfl, .nil⟩
  have D_suits : DefP P w K mg base 1 "suits" (spM true 2 G_suits) [] := ⟨_, _, _, _, (f_suits z F_suits ), He.glo_ok X G (c.fact 17 (f := .glo "suits") rfl), F_suits.kp, FunD.bindsN (ps := ["row", "gaps"]) F_suits fun _ _ _ _ _ _ us hl => match us, hl with | [_, _], _ => rfl, .nil⟩
  have D_count_years : DefP P w K mg base 8 "count_years" (spM true 2 G_count_years) [] := ⟨_, _, _, _, (f_count_years z F_count_years D_bounds_of D_judge_layers D_suits), He.glo_ok X G (c.fact 18 (f := .glo "count_years") rfl), F_count_years.kp, FunD.bindsN (ps := ["spans", "gaps"]) F_count_years fun _ _ _ _ _ _ us hl => match us, hl with | [_, _], _ => rfl, .nil⟩
  have D_accept_years : DefP P w K mg base 5 "accept_years" (spM true 3 G_accept_years) [] := ⟨_, _, _, _, (f_accept_years z F_accept_years D_check_layers D_is_integer), He.glo_ok X G (c.fact 19 (f := .glo "accept_years") rfl), F_accept_years.kp, FunD.bindsN (ps := ["spans", "gaps", "years"]) F_accept_years fun _ _ _ _ _ _ us hl => match us, hl with | [_, _, _], _ => rfl, .nil⟩
  have D_is_way : DefP P w K mg base 2 "is_way" (spM true 2 G_is_way) [] := ⟨_, _, _, _, (f_is_way z F_is_way D_is_integer), He.glo_ok X G (c.fact 20 (f := .glo "is_way") rfl), F_is_way.kp, FunD.bindsN (ps := ["value", "gaps"]) F_is_way fun _ _ _ _ _ _ us hl => match us, hl with | [_, _], _ => rfl, .nil⟩
  have D_accept_ring : DefP P w K mg base 5 "accept_ring" (spM true 3 G_accept_ring) [] := ⟨_, _, _, _, (f_accept_ring z F_accept_ring D_check_layers D_is_way), He.glo_ok X G (c.fact 21 (f := .glo "accept_ring") rfl), F_accept_ring.kp, FunD.bindsN (ps := ["spans", "gaps", "ring"]) F_accept_ring fun _ _ _ _ _ _ us hl => match us, hl with | [_, _, _], _ => rfl, .nil⟩
  have D_accept_late : DefP P w K mg base 5 "accept_late" (spM true 3 G_accept_late) [] := ⟨_, _, _, _, (f_accept_late z F_accept_late D_check_layers D_is_way), He.glo_ok X G (c.fact 22 (f := .glo "accept_late") rfl), F_accept_late.kp, FunD.bindsN (ps := ["spans", "gaps", "way"]) F_accept_late fun _ _ _ _ _ _ us hl => match us, hl with | [_, _, _], _ => rfl, .nil⟩
  have D_L_told_holds : DefP P w K mg base 9 "_law_told_holds" (spM true 3 G_L_told_holds) [] := ⟨_, _, _, _, (f_L_told_holds z F_L_told_holds D_judge_layers D_L_same D_count_years D_accept_years D_bounds_of D_accept_ring D_accept_late), He.glo_ok X G (c.fact 23 (f := .glo "_law_told_holds") rfl), F_L_told_holds.kp, FunD.bindsN (ps := ["spans", "gaps", "rows"]) F_L_told_holds fun _ _ _ _ _ _ us hl => match us, hl with | [_, _, _], _ => rfl, .nil⟩
  have D_needless_gaps : DefP P w K mg base 8 "needless_gaps" (spM true 2 G_needless_gaps) [] := ⟨_, _, _, _, (f_needless_gaps z F_needless_gaps D_bounds_of), He.glo_ok X G (c.fact 24 (f := .glo "needless_gaps") rfl), F_needless_gaps.kp, FunD.bindsN (ps := ["spans", "gaps"]) F_needless_gaps fun _ _ _ _ _ _ us hl => match us, hl with | [_, _], _ => rfl, .nil⟩
  have D_L_pick : DefP P w K mg base 2 "_law_pick" (spS true 1 G_L_pick) [] := ⟨_, _, _, _, (f_L_pick z F_L_pick D_L_draw), He.glo_ok X G (c.fact 25 (f := .glo "_law_pick") rfl), F_L_pick.kp, FunD.bindsN (ps := ["state", "some"]) F_L_pick fun _ _ _ _ _ _ us hl => match us, hl with | [_, _], _ => rfl, .nil⟩
  have D_least_gap : DefP P w K mg base 8 "least_gap" (spM true 4 G_least_gap) [] := ⟨_, _, _, _, (f_least_gap z F_least_gap D_check_right D_bounds_of D_is_integer D_judge_layers), He.glo_ok X G (c.fact 26 (f := .glo "least_gap") rfl), F_least_gap.kp, FunD.bindsN (ps := ["spans", "gaps", "one", "other"]) F_least_gap fun _ _ _ _ _ _ us hl => match us, hl with | [_, _, _, _], _ => rfl, .nil⟩
  have D_L_gaps_hold : DefP P w K mg base 10 "_law_gaps_hold" (spS true 3 G_L_gaps_hold) [] := ⟨_, _, _, _, (f_L_gaps_hold z F_L_gaps_hold D_bounds_of D_needless_gaps D_L_draw D_L_pick D_least_gap D_L_told_holds D_accept_years), He.glo_ok X G (c.fact 27 (f := .glo "_law_gaps_hold") rfl), F_L_gaps_hold.kp, FunD.bindsN (ps := ["state", "spans", "gaps", "rows"]) F_L_gaps_hold fun _ _ _ _ _ _ us hl => match us, hl with | [_, _, _, _], _ => rfl, .nil⟩
  exact f_law z F_law hm D_start D_L_finds D_L_all_years D_L_order D_L_draw D_L_told_holds D_L_gaps_hold
end K64
open PySem PySem.W PySem.Calls PyProof.Rows
theorem K64.final (hm : Mini.Good 20 K64.m_law) : PySem.Challenge.rw_hoardsread_k64_whole_years_between_finds.Holds := by
  w_on; o_law
  refine HandSHeadRun.head_any (r := K64.R) (q := view K64.R.prog [41]) (H := K64.hk) (ob := K64.ob) (M := 3000) (loose := K64.loose) (d := HandSHeadRun.topDef K64.R.prog 41) (kwd := []) K64.ob_eq
    (by kernel_rfl) (fun s => by kernel_rfl) K64.run (by kernel_rfl) (by kernel_rfl) (by kernel_rfl) (by rfl) (by first | assumption | decide +kernel) (by decide +kernel) ⟨rfl, rfl, rfl, rfl, rfl, by decide +kernel⟩ ?hw ?hc
  case hw => w_witness2
  case hc =>
    refine Mini.walk_GE (l := PySem.Challenge.rw_hoardsread_k64_whole_years_between_finds) (n := 63) (k := 11) (x := "script") rfl (by decide) (by kernel_rfl) (Mini.room_caller ⟨rfl, by decide, by decide⟩) ?F
    intro w mg fa h Y G hmg0
    obtain ⟨K, KX, c⟩ := Y
    have hmg : mg ("law" : PySem.Str) = some (.ref fa) := by
      have e : (HandSHeadRun.topDef K64.R.prog 41).name = ("law" : PySem.Str) := by kernel_rfl
      rw [← e]
      exact hmg0
    obtain ⟨fd, hb, hF⟩ := K64.facts (P := (PySem.Challenge.rw_hoardsread_k64_whole_years_between_finds).prog) (w := w) KX G hmg c hm
    exact ⟨K, fd, Mini.spLaw K, KX, hb, fun H a ns _ hbits _ hS => Mini.spLaw_ok hbits hS, hF⟩

theorem PySem.Challenge.cw_hoardsread_k64_whole_years_between_finds_holds : PySem.Challenge.rw_hoardsread_k64_whole_years_between_finds.Holds :=
  K64.final K64.law_good
