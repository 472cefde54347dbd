import PyProof.Rows.All
import HandS.ForMost
import HandS.SortInts
import HandS.Wide
import HandS.Defaults
import HandS.DictComp
import HandS.IsInst
import HandS.Flow
import HandS.TupAny
import KE.DataEq
import KE.DataCmp
import KE.DataFind
import KE.DataMinMax
import KE.DataAny
import HandS.More
import HandS.Strs
import HandS.Zip
import HandS.Style
import PyProof.ReprRoads
import HandS.EndBits
import HandS.RaiseMore
import HandS.SetFor
import HandS.Small
import HandS.Codes
import HandS.Head0
import HandS.Head1
import HandS.Head2
import HandS.HeadEnd
import HandS.HeadHook1
import HandS.HeadHook2
import PySem.Challenge.RW_hoardsread_k70_whole_chances_of_dies_ste
set_option Elab.async false
set_option linter.all false
set_option maxRecDepth 100000
set_option maxHeartbeats 4000000
/-! Mini A: by-value data over the layer HandS: the relation of a value in the heap to plain data, the relation of a def's slots to a plain environment. -/
namespace Mini
open PySem PySem.Spec PyProof.Rows L2

/-- no list of ours is longer -/
abbrev LB : Nat := 1000000
theorem LB_line {n : Nat} (h : n ≤ LB) : n ≤ sizeLine := Nat.le_trans h (by rw [sizeLine_eq]; decide)
theorem LB_lt {n : Nat} (h : n < LB) : n < sizeLine := Nat.lt_of_lt_of_le h (by rw [sizeLine_eq]; decide)

abbrev AS := Addr → Prop
def keyD : Key → PyData
  | .inl i => .int i
  | .inr x => .str x

/-- how a tuple's object is known: tracked (β = false), or to the object, without a dict of its own (β = true: its methods can be called) -/
def TupAt (β : Bool) (H : Hp) (a : Addr) (xs : List V) : Prop := match β with
  | false => H a = some (.tup xs)
  | true => ∃ o : Obj, H a = some (.frz o (.tup xs)) ∧ o.dict = none
/-! ### a value's data -/
mutual
inductive Dv (β : Bool) (Ω : AS) (H : Hp) : V → PyData → Prop
  | non : Dv β Ω H .non .none
  | bl (b : Bool) : Dv β Ω H (.bl b) (.bool b)
  | int (i : Int) : Dv β Ω H (.int i) (.int i)
  | str (x : Str) : Dv β Ω H (.str x) (.str x)
  | lst {a : Addr} {xs : List V} {ds : List PyData} : H a = some (.lst xs) → ¬ Ω a → xs.length ≤ LB → DvA β Ω H xs ds → Dv β Ω H (.ref a) (.list ds)
  | tup {a : Addr} {xs : List V} {ds : List PyData} : TupAt β H a xs → ¬ Ω a → xs.length ≤ LB → DvA β Ω H xs ds → Dv β Ω H (.ref a) (.tuple ds)
  | dK {a : Addr} {kvs : List (Key × V)} {ds : List PyData} : Rd H a (.dK kvs) → ¬ Ω a → kvs.length ≤ LB → DvA β Ω H (kvs.map (·.2)) ds → Dv β Ω H (.ref a) (.dict ((kvs.map fun p => keyD p.1).zip ds))
  | dT {a : Addr} {kvs : List (List Key × V)} {ds : List PyData} : Rd H a (.dT kvs) → ¬ Ω a → kvs.length ≤ LB → DvA β Ω H (kvs.map (·.2)) ds → Dv β Ω H (.ref a) (.dict ((kvs.map fun p => PyData.tuple (p.1.map keyD)).zip ds))
inductive DvA (β : Bool) (Ω : AS) (H : Hp) : List V → List PyData → Prop
  | nil : DvA β Ω H [] []
  | cons {v : V} {vs : List V} {d : PyData} {ds : List PyData} : Dv β Ω H v d → DvA β Ω H vs ds → DvA β Ω H (v :: vs) (d :: ds)
end

/-- nothing but Ω may have changed -/
def Evo (Ω : AS) (H H' : Hp) : Prop := ∀ a o, H a = some o → ¬ Ω a → H' a = some o
/-- the heap has grown, nothing has changed -/
def Ext (H H' : Hp) : Prop := ∀ a o, H a = some o → H' a = some o
theorem Ext.refl (H : Hp) : Ext H H := fun _ _ h => h
theorem Ext.trans {H H1 H2 : Hp} (a : Ext H H1) (b : Ext H1 H2) : Ext H H2 := fun x o h => b x o (a x o h)
theorem Ext.evo {H H' : Hp} (e : Ext H H') (Ω : AS) : Evo Ω H H' := fun a o h _ => e a o h
theorem Ext.new {H : Hp} {p : Addr} {o : HO} (h : H p = none) : Ext H (upd H p o) := fun a u e => by
  rw [upd_ne (ne_of_none e h)]
  exact e
theorem Evo.refl (Ω : AS) (H : Hp) : Evo Ω H H := fun _ _ h _ => h
theorem Evo.trans {Ω : AS} {H H1 H2 : Hp} (a : Evo Ω H H1) (b : Evo Ω H1 H2) : Evo Ω H H2 := fun x o h n => b x o (a x o h n) n
theorem Evo.mono {β : Bool} {Ω Ω' : AS} {H H' : Hp} (e : Evo Ω H H') (h : ∀ a, Ω a → Ω' a) : Evo Ω' H H' := fun a o q n => e a o q fun z => n (h a z)
theorem TupAt.rd {β : Bool} {H : Hp} {a : Addr} {xs : List V} (h : TupAt β H a xs) : Rd H a (.tup xs) := by
  cases β with
  | false => exact .inl h
  | true => obtain ⟨o, h, _⟩ := h; exact .inr ⟨o, h⟩
theorem TupAt.evo {β : Bool} {Ω : AS} {H H' : Hp} {a : Addr} {xs : List V} (e : Evo Ω H H') (n : ¬ Ω a) (h : TupAt β H a xs) : TupAt β H' a xs := by
  cases β with
  | false => exact e a _ h n
  | true => obtain ⟨o, h, d⟩ := h; exact ⟨o, e a _ h n, d⟩
theorem TupAt.some {β : Bool} {H : Hp} {a : Addr} {xs : List V} (h : TupAt β H a xs) : H a ≠ none := by
  cases β with
  | false => rw [show H a = _ from h]; exact fun z => nomatch z
  | true => obtain ⟨o, h, _⟩ := h; rw [h]; exact fun z => nomatch z
theorem TupAt.seq {β : Bool} {K : PySem.W.Frag} {H : Hp} {a : Addr} {xs : List V} (h : TupAt β H a xs) : SqT K H a xs := .inl h.rd
theorem Rd.evo {Ω : AS} {H H' : Hp} {a : Addr} {u : HO} (e : Evo Ω H H') (n : ¬ Ω a) (h : Rd H a u) : Rd H' a u := by
  rcases h with h | ⟨o, h⟩
  · exact .inl (e a _ h n)
  · exact .inr ⟨o, e a _ h n⟩
/-- Ω shrinks by what was there, the heap goes on -/
structure Grow (Ω : AS) (H : Hp) (Ω' : AS) (H' : Hp) : Prop where
  own : ∀ a, Ω' a → Ω a ∨ H a = none
  evo : Evo Ω H H'
theorem Grow.refl (Ω : AS) (H : Hp) : Grow Ω H Ω H := ⟨fun _ h => .inl h, Evo.refl Ω H⟩
theorem Grow.trans {Ω Ω1 Ω2 : AS} {H H1 H2 : Hp} (a : Grow Ω H Ω1 H1) (b : Grow Ω1 H1 Ω2 H2) : Grow Ω H Ω2 H2 := by
  have q : ∀ c, Ω1 c → Ω c ∨ H c = none := a.own
  refine ⟨fun c h => ?_, fun c o h n => ?_⟩
  · rcases b.own c h with z | z
    · exact q c z
    · cases e : H c with
      | none => exact .inr rfl
      | some o =>
        by_cases hc : Ω c
        · exact .inl hc
        · rw [a.evo c o e hc] at z
          cases z
  · refine b.evo c o (a.evo c o h n) fun z => ?_
    rcases q c z with z | z
    · exact n z
    · rw [h] at z
      cases z
theorem Ext.grow {Ω : AS} {H H' : Hp} (e : Ext H H') : Grow Ω H Ω H' := ⟨fun _ h => .inl h, e.evo Ω⟩
theorem Evo.grow {Ω : AS} {H H' : Hp} (e : Evo Ω H H') : Grow Ω H Ω H' := ⟨fun _ h => .inl h, e⟩

mutual
theorem Dv.grow {β : Bool} {Ω Ω' : AS} {H H' : Hp} (g : Grow Ω H Ω' H') : ∀ {d : PyData} {v : V}, Dv β Ω H v d → Dv β Ω' H' v d
  | .none, _, .non => .non
  | .bool b, _, .bl _ => .bl b
  | .int i, _, .int _ => .int i
  | .str x, _, .str _ => .str x
  | .list ds, _, .lst h n l r => .lst (g.evo _ _ h n) (fun z => (g.own _ z).elim n fun q => by rw [h] at q; cases q) l (DvA.grow g r)
  | .tuple ds, _, .tup h n l r => .tup (h.evo g.evo n) (fun z => (g.own _ z).elim n fun q => h.some q) l (DvA.grow g r)
  | _, _, .dK h n l r => .dK (Rd.evo g.evo n h) (fun z => (g.own _ z).elim n fun q => by rcases h with h | ⟨o, h⟩ <;> (rw [h] at q; cases q)) l (DvA.grow g r)
  | _, _, .dT h n l r => .dT (Rd.evo g.evo n h) (fun z => (g.own _ z).elim n fun q => by rcases h with h | ⟨o, h⟩ <;> (rw [h] at q; cases q)) l (DvA.grow g r)
theorem DvA.grow {β : Bool} {Ω Ω' : AS} {H H' : Hp} (g : Grow Ω H Ω' H') : ∀ {ds : List PyData} {vs : List V}, DvA β Ω H vs ds → DvA β Ω' H' vs ds
  | _, _, .nil => .nil
  | _, _, .cons h r => .cons (Dv.grow g h) (DvA.grow g r)
end
theorem DvA.length {β : Bool} {Ω : AS} {H : Hp} : ∀ {vs : List V} {ds : List PyData}, DvA β Ω H vs ds → vs.length = ds.length
  | _, _, .nil => rfl
  | _, _, .cons _ r => congrArg (· + 1) (DvA.length r)
theorem DvA.get {β : Bool} {Ω : AS} {H : Hp} : ∀ {vs : List V} {ds : List PyData} {i : Nat} {d : PyData}, DvA β Ω H vs ds → ds[i]? = some d → ∃ v, vs[i]? = some v ∧ Dv β Ω H v d
  | _, _, _, _, .nil, e => by simp at e
  | _, _, 0, _, .cons h _, e => by
    simp only [List.getElem?_cons_zero, Option.some.injEq] at e
    subst e
    exact ⟨_, rfl, h⟩
  | _, _, i + 1, _, .cons _ r, e => by
    obtain ⟨v, h1, h2⟩ := DvA.get (i := i) r (by simpa using e)
    exact ⟨v, by simpa using h1, h2⟩
theorem DvA.get' {β : Bool} {Ω : AS} {H : Hp} : ∀ {vs : List V} {ds : List PyData} {i : Nat} {v : V}, DvA β Ω H vs ds → vs[i]? = some v → ∃ d, ds[i]? = some d ∧ Dv β Ω H v d
  | _, _, _, _, .nil, e => by simp at e
  | _, _, 0, _, .cons h _, e => by
    simp only [List.getElem?_cons_zero, Option.some.injEq] at e
    subst e
    exact ⟨_, rfl, h⟩
  | _, _, i + 1, _, .cons _ r, e => by
    obtain ⟨v, h1, h2⟩ := DvA.get' (i := i) r (by simpa using e)
    exact ⟨v, by simpa using h1, h2⟩
theorem DvA.append {β : Bool} {Ω : AS} {H : Hp} : ∀ {vs ws : List V} {ds es : List PyData}, DvA β Ω H vs ds → DvA β Ω H ws es → DvA β Ω H (vs ++ ws) (ds ++ es)
  | _, _, _, _, .nil, s => s
  | _, _, _, _, .cons h r, s => .cons h (DvA.append r s)
theorem DvA.take {β : Bool} {Ω : AS} {H : Hp} : ∀ {vs : List V} {ds : List PyData} (n : Nat), DvA β Ω H vs ds → DvA β Ω H (vs.take n) (ds.take n)
  | _, _, 0, _ => .nil
  | _, _, _ + 1, .nil => .nil
  | _, _, n + 1, .cons h r => .cons h (DvA.take n r)
theorem DvA.drop {β : Bool} {Ω : AS} {H : Hp} : ∀ {vs : List V} {ds : List PyData} (n : Nat), DvA β Ω H vs ds → DvA β Ω H (vs.drop n) (ds.drop n)
  | _, _, 0, h => h
  | _, _, _ + 1, .nil => .nil
  | _, _, n + 1, .cons _ r => DvA.drop n r
theorem DvA.set {β : Bool} {Ω : AS} {H : Hp} {v : V} {d : PyData} (h : Dv β Ω H v d) : ∀ {vs : List V} {ds : List PyData} (i : Nat), DvA β Ω H vs ds → DvA β Ω H (vs.set i v) (ds.set i d)
  | _, _, _, .nil => .nil
  | _, _, 0, .cons _ r => .cons h r
  | _, _, i + 1, .cons q r => .cons q (DvA.set h i r)
theorem DvA.reverse {β : Bool} {Ω : AS} {H : Hp} : ∀ {vs : List V} {ds : List PyData}, DvA β Ω H vs ds → DvA β Ω H vs.reverse ds.reverse
  | _, _, .nil => .nil
  | _, _, .cons h r => by
    rw [List.reverse_cons, List.reverse_cons]
    exact (DvA.reverse r).append (.cons h .nil)
theorem DvA.rep {β : Bool} {Ω : AS} {H : Hp} {v : V} {d : PyData} (h : Dv β Ω H v d) : ∀ n : Nat, DvA β Ω H (List.replicate n v) (List.replicate n d)
  | 0 => .nil
  | n + 1 => .cons h (DvA.rep h n)
theorem DvA.dropLast {β : Bool} {Ω : AS} {H : Hp} {vs : List V} {ds : List PyData} (h : DvA β Ω H vs ds) : DvA β Ω H vs.dropLast ds.dropLast := by
  rw [List.dropLast_eq_take, List.dropLast_eq_take, h.length]
  exact h.take _
theorem DvA.at {β : Bool} {Ω : AS} {H : Hp} {vs : List V} {ds : List PyData} {i : Int} {d : PyData} (h : DvA β Ω H vs ds) (e : atI ds i = some d) : ∃ v, atI vs i = some v ∧ Dv β Ω H v d := by
  unfold atI at e ⊢
  rw [h.length]
  cases q : ixN ds.length i with
  | none => rw [q] at e; cases e
  | some j =>
    rw [q] at e
    exact h.get e
/-- flat data -/
theorem Dv.int_inv {β : Bool} {Ω : AS} {H : Hp} {v : V} {i : Int} (h : Dv β Ω H v (.int i)) : v = .int i := by cases h; rfl
theorem Dv.bl_inv {β : Bool} {Ω : AS} {H : Hp} {v : V} {b : Bool} (h : Dv β Ω H v (.bool b)) : v = .bl b := by cases h; rfl
theorem Dv.str_inv {β : Bool} {Ω : AS} {H : Hp} {v : V} {x : Str} (h : Dv β Ω H v (.str x)) : v = .str x := by cases h; rfl
theorem Dv.non_inv {β : Bool} {Ω : AS} {H : Hp} {v : V} (h : Dv β Ω H v .none) : v = .non := by cases h; rfl
theorem Dv.tup_inv {β : Bool} {Ω : AS} {H : Hp} {v : V} {ds : List PyData} (h : Dv β Ω H v (.tuple ds)) : ∃ a vs, v = .ref a ∧ TupAt β H a vs ∧ ¬ Ω a ∧ vs.length ≤ LB ∧ DvA β Ω H vs ds := by
  cases h with
  | tup h n l r => exact ⟨_, _, rfl, h, n, l, r⟩
theorem Dv.lst_inv {β : Bool} {Ω : AS} {H : Hp} {v : V} {ds : List PyData} (h : Dv β Ω H v (.list ds)) : ∃ a vs, v = .ref a ∧ H a = some (.lst vs) ∧ ¬ Ω a ∧ vs.length ≤ LB ∧ DvA β Ω H vs ds := by
  cases h with
  | lst h n l r => exact ⟨_, _, rfl, h, n, l, r⟩
theorem DvA.ints {β : Bool} {Ω : AS} {H : Hp} : ∀ {ns : List Int} {vs : List V}, DvA β Ω H vs (ns.map .int) → vs = ns.map V.int
  | [], _, .nil => rfl
  | n :: ns, _, .cons h r => by rw [h.int_inv, DvA.ints r]; rfl
theorem DvA.ofInts {β : Bool} {Ω : AS} {H : Hp} : ∀ ns : List Int, DvA β Ω H (ns.map V.int) (ns.map .int)
  | [] => .nil
  | n :: ns => .cons (.int n) (DvA.ofInts ns)
theorem DvA.bls {β : Bool} {Ω : AS} {H : Hp} : ∀ {ns : List Bool} {vs : List V}, DvA β Ω H vs (ns.map .bool) → vs = ns.map V.bl
  | [], _, .nil => rfl
  | n :: ns, _, .cons h r => by rw [h.bl_inv, DvA.bls r]; rfl

/-! ### the draws' state -/
structure Drw where
  cells : List Int
  at_ : Int
  cur : Int
  left : Int
  seed : Int
  cnt : Int
/-- bounds that the draws keep -/
structure Drw.Ok (w : Drw) : Prop where
  len : w.cells.length ≤ 63
  big : ∀ c ∈ w.cells, 0 ≤ c ∧ c.natAbs < 2 ^ 1048580
  at0 : 0 ≤ w.at_
  at1 : w.at_ ≤ 63
  cur0 : 0 ≤ w.cur
  cur1 : w.cur.natAbs < 2 ^ 1048580
  left0 : 0 ≤ w.left
  left1 : w.left ≤ 60
  seed0 : 0 ≤ w.seed
  seed1 : w.seed < 2147483647
  cnt0 : 0 ≤ w.cnt
  cnt1 : w.cnt < 2 ^ 62

/-! ### a def's slots -/
inductive Sl where
  | no
  | val (d : PyData)
  | own (d : PyData)
  | stt
  | raw (v : V)
abbrev SEnv := List Sl

/-- what is fixed from a def's entry on: the draws' state's address (if the def has one), the heap at the entry, what others may change -/
structure Fx (β : Bool) where
  st : Option Addr
  cl : Addr
  H0 : Hp
  Ψ : AS
abbrev Fx.β {β : Bool} (_ : Fx β) : Bool := β
/-- an own object's content -/
def OwnAt (β : Bool) (Ω : AS) (H : Hp) (a : Addr) : PyData → Prop
  | .list ds => ∃ vs, H a = some (.lst vs) ∧ vs.length ≤ LB ∧ DvA β Ω H vs ds
  | .dict ps => (∃ (kvs : List (Key × V)) (ds : List PyData), H a = some (.dK kvs) ∧ kvs.length ≤ LB ∧ DvA β Ω H (kvs.map (·.2)) ds ∧ ps = (kvs.map fun p => keyD p.1).zip ds) ∨
      (∃ (kvs : List (List Key × V)) (ds : List PyData), H a = some (.dT kvs) ∧ kvs.length ≤ LB ∧ DvA β Ω H (kvs.map (·.2)) ds ∧ ps = (kvs.map fun p => PyData.tuple (p.1.map keyD)).zip ds)
  | _ => False
theorem OwnAt.grow {β : Bool} {Ω Ω' : AS} {H H' : Hp} {a : Addr} {d : PyData} (g : Grow Ω H Ω' H') (e : H' a = H a) (h : OwnAt β Ω H a d) : OwnAt β Ω' H' a d := by
  cases d with
  | list ds =>
    obtain ⟨vs, h1, h2, h3⟩ := h
    exact ⟨vs, e.trans h1, h2, h3.grow g⟩
  | dict ps =>
    rcases h with ⟨kvs, ds, h1, h2, h3, h4⟩ | ⟨kvs, ds, h1, h2, h3, h4⟩
    · exact .inl ⟨kvs, ds, e.trans h1, h2, h3.grow g, h4⟩
    · exact .inr ⟨kvs, ds, e.trans h1, h2, h3.grow g, h4⟩
  | _ => exact False.elim h
def SlOk {β : Bool} (F : Fx β) (Ω : AS) (H : Hp) (σ : L2.St) (i : Nat) : Sl → Prop
  | .no => True
  | .val d => ∃ v, σ[i]? = some (some v) ∧ Dv F.β Ω H v d
  | .own d => ∃ a, σ[i]? = some (some (.ref a)) ∧ Ω a ∧ F.H0 a = none ∧ OwnAt F.β Ω H a d
  | .stt => ∃ s, F.st = some s ∧ σ[i]? = some (some (.ref s))
  | .raw v => σ[i]? = some (some v)
def isOwn : Sl → Bool
  | .own _ => true
  | _ => false
/-- the draws' state stands -/
def WOk (st : Option Addr) (c : Addr) (Ω : AS) (H : Hp) (w : Drw) : Prop := match st with
  | none => True
  | some s => Ω s ∧ Ω c ∧ c ≠ s ∧ H s = some (.lst [.ref c, .int w.at_, .int w.cur, .int w.left, .int w.seed, .int w.cnt]) ∧ H c = some (.lst (w.cells.map V.int)) ∧ w.Ok
structure Rel {β : Bool} (F : Fx β) (H : Hp) (Ω : AS) (σ : L2.St) (S : SEnv) (w : Drw) : Prop where
  ext : ∀ a o, F.H0 a = some o → F.st ≠ some a → H a = some o
  base : ∀ a, F.Ψ a → Ω a
  dom : ∀ a, Ω a → H a ≠ none
  old : ∀ a, F.Ψ a → F.H0 a ≠ none
  len : S.length = σ.length
  slot : ∀ (i : Nat) (sl : Sl), S[i]? = some sl → SlOk F Ω H σ i sl
  uniq : ∀ (i j : Nat) (d e : PyData) (a : Addr), S[i]? = some (Sl.own d) → S[j]? = some (Sl.own e) → σ[i]? = some (some (V.ref a)) → σ[j]? = some (some (V.ref a)) → i = j
  wok : WOk F.st F.cl F.Ψ H w
section
variable {β : Bool} {F : Fx β} {H H' : Hp} {Ω Ω' : AS} {σ : L2.St} {S : SEnv} {w w' : Drw}
/-- the draws' state alone may have changed -/
def Evs (st : Option Addr) (H H' : Hp) : Prop := ∀ a o, H a = some o → st ≠ some a → H' a = some o
theorem Evs.refl (st : Option Addr) (H : Hp) : Evs st H H := fun _ _ h _ => h
theorem Evs.trans {st : Option Addr} {H H1 H2 : Hp} (a : Evs st H H1) (b : Evs st H1 H2) : Evs st H H2 := fun x o h n => b x o (a x o h n) n
theorem Ext.evs {st : Option Addr} (e : Ext H H') : Evs st H H' := fun a o h _ => e a o h
theorem Rel.stΨ (R : Rel F H Ω σ S w) {a : Addr} (h : F.st = some a) : F.Ψ a ∧ Ω a := by
  have k := R.wok
  rw [h] at k
  exact ⟨k.1, R.base a k.1⟩
theorem Rel.evo (R : Rel F H Ω σ S w) (e : Evs F.st H H') : Evo Ω H H' := fun a o h n => e a o h fun z => n (R.stΨ z).2
theorem Rel.grow (R : Rel F H Ω σ S w) (e : Evs F.st H H') : Grow Ω H Ω H' := (R.evo e).grow
theorem WOk.ext {st : Option Addr} {c : Addr} (e : Ext H H') (h : WOk st c Ω H w) : WOk st c Ω H' w := by
  cases st with
  | none => exact h
  | some s =>
    obtain ⟨h0, h1, h2, h3, h4, h5⟩ := h
    exact ⟨h0, h1, h2, e _ _ h3, e _ _ h4, h5⟩
theorem OwnAt.some {a : Addr} {d : PyData} (h : OwnAt β Ω H a d) : ∃ o, H a = some o := by
  cases d with
  | list ds => obtain ⟨vs, h1, _⟩ := h; exact ⟨_, h1⟩
  | dict ps =>
    rcases h with ⟨kvs, ds, h1, _⟩ | ⟨kvs, ds, h1, _⟩
    · exact ⟨_, h1⟩
    · exact ⟨_, h1⟩
  | _ => exact False.elim h
/-- behind an expression: the draws' state may have turned -/
theorem Rel.evs (R : Rel F H Ω σ S w) (e : Evs F.st H H') (k : WOk F.st F.cl F.Ψ H' w') : Rel F H' Ω σ S w' := by
  refine ⟨fun a o h n => e a o (R.ext a o h n) n, R.base, fun a h => ?_, R.old, R.len, fun i sl hi => ?_, R.uniq, k⟩
  · cases q : H a with
    | none => exact absurd q (R.dom a h)
    | some o =>
      by_cases hs : F.st = some a
      · have k' := k
        rw [hs] at k'
        obtain ⟨_, _, _, z, _⟩ := k'
        rw [z]
        exact fun z => nomatch z
      · rw [e a o q hs]
        exact fun z => nomatch z
  · have q := R.slot i sl hi
    cases sl with
    | no => trivial
    | val d =>
      obtain ⟨v, h1, h2⟩ := q
      exact ⟨v, h1, h2.grow (R.grow e)⟩
    | own d =>
      obtain ⟨a, h1, h2, h3, h4⟩ := q
      obtain ⟨o, ho⟩ := h4.some
      have hne : F.st ≠ some a := fun z => R.old a (R.stΨ z).1 h3
      exact ⟨a, h1, h2, h3, h4.grow (R.grow e) ((e a o ho hne).trans ho.symm)⟩
    | stt => exact q
    | raw v => exact q
theorem Rel.ex (R : Rel F H Ω σ S w) (e : Ext H H') : Rel F H' Ω σ S w := R.evs e.evs (R.wok.ext e)
end

/-! ### what a reading of a data value may be: esc: free to be kept; top: a def's own object, for the moment -/
inductive Strg where
  | esc | top
def Dx {β : Bool} (r : Strg) (F : Fx β) (Ω : AS) (H : Hp) (v : V) (d : PyData) : Prop := match r with
  | .esc => Dv F.β Ω H v d
  | .top => Dv F.β Ω H v d ∨ ∃ a, v = .ref a ∧ F.H0 a = none ∧ OwnAt F.β Ω H a d
section
variable {β : Bool} {r : Strg} {F : Fx β} {Ω : AS} {H H' : Hp} {v : V} {d : PyData}
theorem Dx.of (h : Dv F.β Ω H v d) : Dx r F Ω H v d := by
  cases r with
  | esc => exact h
  | top => exact .inl h
def notObj : PyData → Bool
  | .list _ => false
  | .dict _ => false
  | _ => true
theorem Dx.flat (h : Dx r F Ω H v d) (hd : notObj d = true) : Dv F.β Ω H v d := by
  cases r with
  | esc => exact h
  | top =>
    rcases h with h | ⟨a, _, _, h⟩
    · exact h
    · cases d <;> first | exact False.elim h | cases hd
theorem Dx.int_inv {i : Int} (h : Dx r F Ω H v (.int i)) : v = .int i := (h.flat rfl).int_inv
theorem Dx.bl_inv {b : Bool} (h : Dx r F Ω H v (.bool b)) : v = .bl b := (h.flat rfl).bl_inv
theorem Dx.str_inv {x : Str} (h : Dx r F Ω H v (.str x)) : v = .str x := (h.flat rfl).str_inv
theorem Dx.non_inv (h : Dx r F Ω H v .none) : v = .non := (h.flat rfl).non_inv
theorem Dx.tup_inv {ds : List PyData} (h : Dx r F Ω H v (.tuple ds)) : ∃ a vs, v = .ref a ∧ TupAt F.β H a vs ∧ vs.length ≤ LB ∧ DvA F.β Ω H vs ds := by
  obtain ⟨a, vs, h1, h2, _, h3, h4⟩ := (h.flat rfl).tup_inv
  exact ⟨a, vs, h1, h2, h3, h4⟩
theorem Dx.lst_inv {ds : List PyData} (h : Dx r F Ω H v (.list ds)) : ∃ a vs, v = .ref a ∧ H a = some (.lst vs) ∧ vs.length ≤ LB ∧ DvA F.β Ω H vs ds := by
  have of : Dv F.β Ω H v (.list ds) → ∃ a vs, v = .ref a ∧ H a = some (.lst vs) ∧ vs.length ≤ LB ∧ DvA F.β Ω H vs ds := fun h => by
    obtain ⟨a, vs, h1, h2, _, h3, h4⟩ := h.lst_inv
    exact ⟨a, vs, h1, h2, h3, h4⟩
  cases r with
  | esc => exact of h
  | top =>
    rcases h with h | ⟨a, e, _, vs, h1, h2, h3⟩
    · exact of h
    · exact ⟨a, vs, e, h1, h2, h3⟩
theorem Dx.mono {σ : L2.St} {S : SEnv} {w : Drw} (R : Rel F H Ω σ S w) (e : Evs F.st H H') (h : Dx r F Ω H v d) : Dx r F Ω H' v d := by
  cases r with
  | esc => exact Dv.grow (R.grow e) h
  | top =>
    rcases h with h | ⟨a, q, h0, h⟩
    · exact .inl (h.grow (R.grow e))
    · obtain ⟨o, hO⟩ := h.some
      exact .inr ⟨a, q, h0, h.grow (R.grow e) ((e a o hO fun z => R.old a (R.stΨ z).1 h0).trans hO.symm)⟩
end
end Mini

set_option Elab.async false
set_option linter.all false
set_option maxRecDepth 100000
set_option maxHeartbeats 4000000
/-! Mini B: an expression of a def is modelled by a plain function of the plain environment. -/
namespace Mini
open PySem PySem.Spec PyProof.Rows L2

abbrev ME := SEnv → Drw → Option (PyData × Drw)
abbrev MT := SEnv → Drw → Option (Bool × Drw)
abbrev MA := SEnv → Drw → Option (List PyData × Drw)

inductive DxA {β : Bool} (r : Strg) (F : Fx β) (Ω : AS) (H : Hp) : List V → List PyData → Prop
  | nil : DxA r F Ω H [] []
  | cons {v : V} {vs : List V} {d : PyData} {ds : List PyData} : Dx r F Ω H v d → DxA r F Ω H vs ds → DxA r F Ω H (v :: vs) (d :: ds)
theorem DxA.dv {β : Bool} {F : Fx β} {Ω : AS} {H : Hp} : ∀ {vs : List V} {ds : List PyData}, DxA .esc F Ω H vs ds → DvA F.β Ω H vs ds
  | _, _, .nil => .nil
  | _, _, .cons h r => .cons h (DxA.dv r)
theorem DxA.one {r : Strg} {β : Bool} {F : Fx β} {Ω : AS} {H : Hp} {vs : List V} {d : PyData} (h : DxA r F Ω H vs [d]) : ∃ v, vs = [v] ∧ Dx r F Ω H v d := by
  cases h with
  | cons h r => cases r; exact ⟨_, rfl, h⟩
theorem DxA.two {r : Strg} {β : Bool} {F : Fx β} {Ω : AS} {H : Hp} {vs : List V} {d e : PyData} (h : DxA r F Ω H vs [d, e]) : ∃ v u, vs = [v, u] ∧ Dx r F Ω H v d ∧ Dx r F Ω H u e := by
  cases h with
  | cons h t => obtain ⟨u, rfl, k⟩ := t.one; exact ⟨_, _, rfl, h, k⟩

/-- the reading of a modelled expression, test, argument list -/
def tEv (β : Bool) (r : Strg) (m : ME) : TE := fun σ H Q => ∃ (F : Fx β) (Ω : AS) (S : SEnv) (w w' : Drw) (d : PyData),
  Rel F H Ω σ S w ∧ m S w = some (d, w') ∧ ∀ v H', Rel F H' Ω σ S w' → Evs F.st H H' → Dx r F Ω H' v d → Q v H'
def tTs (β : Bool) (m : MT) : TT := fun σ H Q => ∃ (F : Fx β) (Ω : AS) (S : SEnv) (w w' : Drw) (b : Bool),
  Rel F H Ω σ S w ∧ m S w = some (b, w') ∧ ∀ H', Rel F H' Ω σ S w' → Evs F.st H H' → Q b H'
def tAs (β : Bool) (r : Strg) (m : MA) : TA := fun σ H Q => ∃ (F : Fx β) (Ω : AS) (S : SEnv) (w w' : Drw) (ds : List PyData),
  Rel F H Ω σ S w ∧ m S w = some (ds, w') ∧ ∀ vs H', Rel F H' Ω σ S w' → Evs F.st H H' → DxA r F Ω H' vs ds → Q vs H'
def DE (β : Bool) (r : Strg) (X : Cx) (e : Expr) (m : ME) : Prop := PE X e (tEv β r m)
def DT (β : Bool) (X : Cx) (e : Expr) (m : MT) : Prop := PT X e (tTs β m)
def DW (β : Bool) (X : Cx) (e : Expr) (m : MT) : Prop := PW X e (tTs β m)
def DA (β : Bool) (r : Strg) (X : Cx) (es : List Expr) (m : MA) : Prop := PA X es (tAs β r m)

section
variable {X : Cx} {e : Expr} {es : List Expr}
theorem pe_imp {t t' : TE} (h : PE X e t) (k : ∀ σ H Q, t' σ H Q → t σ H Q) : PE X e t' := ⟨fun pins s σ H Q I hw => h.run pins s σ H Q I (k σ H Q hw)⟩
theorem pt_imp {t t' : TT} (h : PT X e t) (k : ∀ σ H Q, t' σ H Q → t σ H Q) : PT X e t' := ⟨fun pins s σ H Q I hw => h.run pins s σ H Q I (k σ H Q hw)⟩
theorem pw_imp {t t' : TT} (h : PW X e t) (k : ∀ σ H Q, t' σ H Q → t σ H Q) : PW X e t' := ⟨fun wh pins s σ H Q I hw => h.run wh pins s σ H Q I (k σ H Q hw)⟩
theorem pa_imp {t t' : TA} (h : PA X es t) (k : ∀ σ H Q, t' σ H Q → t σ H Q) : PA X es t' := ⟨fun pos pins s σ H Q I hw => h.run pos pins s σ H Q I (k σ H Q hw)⟩
end
theorem Rel.fresh {β : Bool} {F : Fx β} {H : Hp} {Ω : AS} {σ : L2.St} {S : SEnv} {w : Drw} (R : Rel F H Ω σ S w) {p : Addr} (h : H p = none) : ¬ Ω p := fun z => R.dom p z h

/-! ### plain combinators -/
def m1 (g : PyData → Option PyData) (ma : ME) : ME := fun S w => (ma S w).bind fun p => (g p.1).map fun d => (d, p.2)
def m2 (g : PyData → PyData → Option PyData) (ma mb : ME) : ME := fun S w => (ma S w).bind fun p => (mb S p.2).bind fun q => (g p.1 q.1).map fun d => (d, q.2)
def mC (d : PyData) : ME := fun _ w => some (d, w)
/-- a name: what may be kept | what is looked at -/
def mVar (i : Nat) : ME := fun S w => match S[i]? with
  | some (.val d) => some (d, w)
  | _ => none
def mLook (i : Nat) : ME := fun S w => match S[i]? with
  | some (.val d) => some (d, w)
  | some (.own d) => some (d, w)
  | _ => none
def mAnd (a b : MT) : MT := fun S w => (a S w).bind fun p => if p.1 = true then b S p.2 else some (false, p.2)
def mOr (a b : MT) : MT := fun S w => (a S w).bind fun p => if p.1 = true then some (true, p.2) else b S p.2
def mNot (a : MT) : MT := fun S w => (a S w).map fun p => (!p.1, p.2)
def mIte (t : MT) (a b : ME) : ME := fun S w => (t S w).bind fun p => if p.1 = true then a S p.2 else b S p.2
/-- a bool value as a test, a test as a bool value -/
def mB (a : ME) : MT := fun S w => (a S w).bind fun p => match p.1 with
  | .bool b => some (b, p.2)
  | _ => none
def mV (t : MT) : ME := fun S w => (t S w).map fun p => (.bool p.1, p.2)
def mNil : MA := fun _ w => some ([], w)
def mCons (a : ME) (r : MA) : MA := fun S w => (a S w).bind fun p => (r S p.2).map fun q => (p.1 :: q.1, q.2)
def mTup (a : MA) : ME := fun S w => (a S w).bind fun p => if p.1.length ≤ LB then some (.tuple p.1, p.2) else none
def mLst (a : MA) : ME := fun S w => (a S w).bind fun p => if p.1.length ≤ LB then some (.list p.1, p.2) else none
/-- a builtin over its arguments' data -/
def mF (g : List PyData → Option PyData) (a : MA) : ME := fun S w => (a S w).bind fun p => (g p.1).map fun d => (d, p.2)

section
variable {β : Bool} {X : Cx} {a b c e : Expr} {es : List Expr} {pos : Pos} {r ra rb rc : Strg} {ma mb mc m : ME} {ta tb : MT} {mr : MA}

/-! ### names, constants -/
theorem de_var {i : Nat} {x : Str} (h : PE X (.Name x pos) (tVar i)) : DE β .esc X (.Name x pos) (mVar i) := pe_imp h fun σ H Q ⟨F, Ω, S, w, w', d, R, hm, q⟩ => by
  unfold mVar at hm
  cases hs : S[i]? with
  | none => rw [hs] at hm; cases hm
  | some sl =>
    rw [hs] at hm
    cases sl with
    | val d' =>
      cases hm
      obtain ⟨v, h1, h2⟩ := R.slot i _ hs
      exact ⟨v, h1, q v H R (Evs.refl _ _) h2⟩
    | _ => cases hm
theorem de_look {i : Nat} {x : Str} (h : PE X (.Name x pos) (tVar i)) : DE β .top X (.Name x pos) (mLook i) := pe_imp h fun σ H Q ⟨F, Ω, S, w, w', d, R, hm, q⟩ => by
  unfold mLook at hm
  cases hs : S[i]? with
  | none => rw [hs] at hm; cases hm
  | some sl =>
    rw [hs] at hm
    cases sl with
    | val d' =>
      cases hm
      obtain ⟨v, h1, h2⟩ := R.slot i _ hs
      exact ⟨v, h1, q v H R (Evs.refl _ _) (.inl h2)⟩
    | own d' =>
      cases hm
      obtain ⟨a, h1, h2, h3, h4⟩ := R.slot i _ hs
      exact ⟨.ref a, h1, q (.ref a) H R (Evs.refl _ _) (.inr ⟨a, rfl, h3, h4⟩)⟩
    | _ => cases hm
theorem de_top (h : DE β .esc X e m) : DE β .top X e m := pe_imp h fun σ H Q ⟨F, Ω, S, w, w', d, R, hm, q⟩ => ⟨F, Ω, S, w, w', d, R, hm, fun v H' R' ev hd => q v H' R' ev (.inl hd)⟩
theorem de_const {v : V} {d : PyData} (h : PE X e (tC v)) (hd : ∀ β Ω H, Dv β Ω H v d) : DE β .esc X e (mC d) := pe_imp h fun σ H Q ⟨F, Ω, S, w, w', d', R, hm, q⟩ => by
  cases hm
  exact q v H R (Evs.refl _ _) (hd F.β Ω H)
theorem de_int {i : Int} {j : Nat} : DE β .esc X (.Constant (.int i) j pos) (mC (.int i)) := de_const pe_int fun _ _ _ => .int i
theorem de_bl {i : Bool} {j : Nat} : DE β .esc X (.Constant (.bool i) j pos) (mC (.bool i)) := de_const pe_bl fun _ _ _ => .bl i
theorem de_non {j : Nat} : DE β .esc X (.Constant .none j pos) (mC .none) := de_const pe_non fun _ _ _ => .non
theorem de_str {i : Str} {j : Nat} : DE β .esc X (.Constant (.str i) j pos) (mC (.str i)) := de_const pe_str fun _ _ _ => .str i
/-- a constant of the module -/
theorem de_gint {x : Str} {i : Int} {u : Value} (hg : Gl X x) (hm : X.mg x = some u) (hu : ∃ t, u = .int i t) (hd : (x == ("__debug__" : Str)) = false := by decide) : DE β .esc X (.Name x pos) (mC (.int i)) :=
  de_const (pe_glob (v := .int i) hg hm hu hd) fun _ _ _ => .int i

/-! ### two-place operations -/
def Op2 (β : Bool) (ra rb : Strg) (rl : R2) (g : PyData → PyData → Option PyData) : Prop := ∀ (F : Fx β) (H : Hp) (Ω : AS) (σ : L2.St) (S : SEnv) (w : Drw) (x y : V) (dx dy d : PyData) (Q : VK), Rel F H Ω σ S w → Dx ra F Ω H x dx → Dx rb F Ω H y dy → g dx dy = some d →
  (∀ v H', Ext H H' → Dv F.β Ω H' v d → Q v H') → rl x y H Q
theorem op2_imp {rl : R2} {g : PyData → PyData → Option PyData} (hg : Op2 β ra rb rl g) {σ : L2.St} {H : Hp} {Q : VK} (h : tEv β .esc (m2 g ma mb) σ H Q) : tOp rl (tEv β ra ma) (tEv β rb mb) σ H Q := by
  obtain ⟨F, Ω, S, w, w', d, R, hm, q⟩ := h
  unfold m2 at hm
  obtain ⟨⟨dx, w1⟩, h1, hm⟩ := Option.bind_eq_some_iff.mp hm
  obtain ⟨⟨dy, w2⟩, h2, hm⟩ := Option.bind_eq_some_iff.mp hm
  obtain ⟨d', h3, hm⟩ := Option.map_eq_some_iff.mp hm
  cases hm
  refine ⟨F, Ω, S, w, w1, dx, R, h1, fun x H1 R1 e1 hx => ⟨F, Ω, S, w1, _, dy, R1, h2, fun y H2 R2 e2 hy => ?_⟩⟩
  refine hg F H2 Ω σ S _ x y dx dy _ Q R2 (hx.mono R1 e2) hy h3 fun v H3 e3 hv => ?_
  exact q v H3 (R2.ex e3) ((e1.trans e2).trans e3.evs) hv
theorem de_op {op : Operator} {rl : R2} {g : PyData → PyData → Option PyData} (ho : OpR X (binaryOp op) rl) (hg : Op2 β ra rb rl g) (ha : DE β ra X a ma) (hb : DE β rb X b mb) : DE β .esc X (.BinOp a op b pos) (m2 g ma mb) :=
  pe_imp (pe_op ho ha hb) fun _ _ _ h => op2_imp hg h
theorem de_cmp {op : CmpOp} {rl : R2} {g : PyData → PyData → Option PyData} (ho : OpR X (compareOp op) rl) (hg : Op2 β ra rb rl g) (ha : DE β ra X a ma) (hb : DE β rb X b mb) (hm : behindInMarks op b = false := by rfl) : DE β .esc X (.Compare a [op] [b] pos) (m2 g ma mb) :=
  pe_imp (pe_cmpR ho ha hb hm) fun _ _ _ h => op2_imp hg h
theorem de_ix {rl : R2} {g : PyData → PyData → Option PyData} (ho : IxR X rl) (hg : Op2 β ra rb rl g) (ha : DE β ra X a ma) (hb : DE β rb X b mb) (hp : PlainIx b := by exact fun _ _ => rfl) : DE β .esc X (.Subscript a b pos) (m2 g ma mb) :=
  pe_imp (pe_ix ho ha hb hp) fun _ _ _ h => op2_imp hg h

/-! ### values as tests, tests as values -/
theorem tB_imp {σ : L2.St} {H : Hp} {Q : Bool → Hp → Prop} (h : tTs β (mB m) σ H Q) : tB (tEv β .esc m) σ H Q := by
  obtain ⟨F, Ω, S, w, w', d, R, hm, q⟩ := h
  unfold mB at hm
  obtain ⟨⟨dx, w1⟩, h1, hm⟩ := Option.bind_eq_some_iff.mp hm
  cases dx with
  | bool k =>
    cases hm
    exact ⟨F, Ω, S, w, _, .bool d, R, h1, fun v H1 R1 e1 hv => ⟨d, Dv.bl_inv hv, q H1 R1 e1⟩⟩
  | _ => cases hm
/-- an expression whose value is a bool, as a test -/
theorem dt_val (h : DE β .esc X e m) (he : ∀ whole, isTrue e X.env whole = (do let v ← whole; standAt e.pos; holding [v] (truthy v)) := by intro _; rfl) : DT β X e (mB m) := pt_imp (pt_val h he) fun _ _ _ h => tB_imp h
theorem dt_cmp {op : CmpOp} {rl : R2} {g : PyData → PyData → Option PyData} (ho : OpR X (compareOp op) rl) (hg : Op2 β ra rb rl g) (ha : DE β ra X a ma) (hb : DE β rb X b mb) (hm : behindInMarks op b = false := by rfl) : DT β X (.Compare a [op] [b] pos) (mB (m2 g ma mb)) :=
  pt_imp (pt_cmpR ho ha hb hm) fun σ H Q h => by
    obtain ⟨F, Ω, S, w, w', d, R, hm, q⟩ := tB_imp h
    exact op2_imp hg ⟨F, Ω, S, w, w', d, R, hm, q⟩
theorem dt_w (h : DW β X e ta) : DT β X e ta := h.pt
theorem dw_and1 (h : DT β X a ta) : DW β X (.BoolOp .And [a] pos) ta := pw_and1 h
theorem dw_or1 (h : DT β X a ta) : DW β X (.BoolOp .Or [a] pos) ta := pw_or1 h
theorem dw_and (h : DT β X a ta) (hr : DW β X (.BoolOp .And (b :: es) pos) tb) : DW β X (.BoolOp .And (a :: b :: es) pos) (mAnd ta tb) := pw_imp (pw_and h hr) fun σ H Q ⟨F, Ω, S, w, w', d, R, hm, q⟩ => by
  unfold mAnd at hm
  obtain ⟨⟨k, w1⟩, h1, hm⟩ := Option.bind_eq_some_iff.mp hm
  refine ⟨F, Ω, S, w, w1, k, R, h1, fun H1 R1 e1 => ?_⟩
  cases k with
  | true => exact iteT ⟨F, Ω, S, w1, w', d, R1, hm, fun H2 R2 e2 => q H2 R2 (e1.trans e2)⟩
  | false =>
    cases hm
    exact iteF (q H1 R1 e1)
theorem dw_or (h : DT β X a ta) (hr : DW β X (.BoolOp .Or (b :: es) pos) tb) : DW β X (.BoolOp .Or (a :: b :: es) pos) (mOr ta tb) := pw_imp (pw_or h hr) fun σ H Q ⟨F, Ω, S, w, w', d, R, hm, q⟩ => by
  unfold mOr at hm
  obtain ⟨⟨k, w1⟩, h1, hm⟩ := Option.bind_eq_some_iff.mp hm
  refine ⟨F, Ω, S, w, w1, k, R, h1, fun H1 R1 e1 => ?_⟩
  cases k with
  | true =>
    cases hm
    exact iteT (q H1 R1 e1)
  | false => exact iteF ⟨F, Ω, S, w1, w', d, R1, hm, fun H2 R2 e2 => q H2 R2 (e1.trans e2)⟩
theorem dt_not (h : DT β X a ta) : DT β X (.UnaryOp .Not a pos) (mNot ta) := pt_imp (pt_not h) fun σ H Q ⟨F, Ω, S, w, w', d, R, hm, q⟩ => by
  unfold mNot at hm
  obtain ⟨⟨k, w1⟩, h1, hm⟩ := Option.map_eq_some_iff.mp hm
  cases hm
  exact ⟨F, Ω, S, w, _, k, R, h1, q⟩
/-- and, or, not as values, the parts bools -/
def mAndV (a b : ME) : ME := fun S w => (a S w).bind fun p => match p.1 with
  | .bool true => b S p.2
  | .bool false => some (.bool false, p.2)
  | _ => none
def mOrV (a b : ME) : ME := fun S w => (a S w).bind fun p => match p.1 with
  | .bool true => some (.bool true, p.2)
  | .bool false => b S p.2
  | _ => none
def mNotV (a : ME) : ME := fun S w => (a S w).bind fun p => match p.1 with
  | .bool k => some (.bool (!k), p.2)
  | _ => none
theorem de_one {op : BoolOp} (h : DE β r X a m) : DE β r X (.BoolOp op [a] pos) m := pe_one h
theorem de_and (h : DE β .esc X a ma) (hr : DE β .esc X (.BoolOp .And (b :: es) pos) mb) : DE β .esc X (.BoolOp .And (a :: b :: es) pos) (mAndV ma mb) := pe_imp (pe_and h hr) fun σ H Q ⟨F, Ω, S, w, w', d, R, hm, q⟩ => by
  unfold mAndV at hm
  obtain ⟨⟨dx, w1⟩, h1, hm⟩ := Option.bind_eq_some_iff.mp hm
  refine ⟨F, Ω, S, w, w1, dx, R, h1, fun v H1 R1 e1 hv => ?_⟩
  cases dx with
  | bool k =>
    refine ⟨k, Dv.bl_inv hv, ?_⟩
    cases k with
    | true => exact iteT ⟨F, Ω, S, w1, w', d, R1, hm, fun v2 H2 R2 e2 => q v2 H2 R2 (e1.trans e2)⟩
    | false =>
      cases hm
      exact iteF (q (.bl false) H1 R1 e1 (Dv.bl false))
  | _ => cases hm
theorem de_or (h : DE β .esc X a ma) (hr : DE β .esc X (.BoolOp .Or (b :: es) pos) mb) : DE β .esc X (.BoolOp .Or (a :: b :: es) pos) (mOrV ma mb) := pe_imp (pe_or h hr) fun σ H Q ⟨F, Ω, S, w, w', d, R, hm, q⟩ => by
  unfold mOrV at hm
  obtain ⟨⟨dx, w1⟩, h1, hm⟩ := Option.bind_eq_some_iff.mp hm
  refine ⟨F, Ω, S, w, w1, dx, R, h1, fun v H1 R1 e1 hv => ?_⟩
  cases dx with
  | bool k =>
    refine ⟨k, Dv.bl_inv hv, ?_⟩
    cases k with
    | true =>
      cases hm
      exact iteT (q (.bl true) H1 R1 e1 (Dv.bl true))
    | false => exact iteF ⟨F, Ω, S, w1, w', d, R1, hm, fun v2 H2 R2 e2 => q v2 H2 R2 (e1.trans e2)⟩
  | _ => cases hm
theorem de_not (h : DE β .esc X a ma) : DE β .esc X (.UnaryOp .Not a pos) (mNotV ma) := pe_imp (pe_not h) fun σ H Q ⟨F, Ω, S, w, w', d, R, hm, q⟩ => by
  unfold mNotV at hm
  obtain ⟨⟨dx, w1⟩, h1, hm⟩ := Option.bind_eq_some_iff.mp hm
  refine ⟨F, Ω, S, w, w1, dx, R, h1, fun v H1 R1 e1 hv => ?_⟩
  cases dx with
  | bool k =>
    cases hm
    exact ⟨k, Dv.bl_inv hv, q _ H1 R1 e1 (Dv.bl _)⟩
  | _ => cases hm
theorem de_if (hc : DT β X c ta) (ha : DE β r X a ma) (hb : DE β r X b mb) : DE β r X (.IfExp c a b pos) (mIte ta ma mb) := pe_imp (pe_ifExp hc ha hb) fun σ H Q ⟨F, Ω, S, w, w', d, R, hm, q⟩ => by
  unfold mIte at hm
  obtain ⟨⟨k, w1⟩, h1, hm⟩ := Option.bind_eq_some_iff.mp hm
  refine ⟨F, Ω, S, w, w1, k, R, h1, fun H1 R1 e1 => ?_⟩
  cases k with
  | true => exact iteT ⟨F, Ω, S, w1, w', d, R1, hm, fun v2 H2 R2 e2 => q v2 H2 R2 (e1.trans e2)⟩
  | false => exact iteF ⟨F, Ω, S, w1, w', d, R1, hm, fun v2 H2 R2 e2 => q v2 H2 R2 (e1.trans e2)⟩

/-! ### truth -/
def dTru : PyData → Option Bool
  | .none => some false
  | .bool b => some b
  | .int i => some (i != 0)
  | .list xs => some (!xs.isEmpty)
  | .tuple xs => some (!xs.isEmpty)
  | _ => none
def mTru (a : ME) : MT := fun S w => (a S w).bind fun p => (dTru p.1).map fun b => (b, p.2)
theorem DvA.isEmpty {β : Bool} {Ω : AS} {H : Hp} {vs : List V} {ds : List PyData} (h : DvA β Ω H vs ds) : vs.isEmpty = ds.isEmpty := by cases h <;> rfl
theorem dx_tru {β : Bool} {F : Fx β} {Ω : AS} {H : Hp} {v : V} {d : PyData} {k : Bool} (h : Dx r F Ω H v d) (hk : dTru d = some k) : TruV X.K v H k := by
  cases d with
  | none => rw [h.non_inv]; cases hk; rfl
  | bool b => rw [h.bl_inv]; cases hk; rfl
  | int i => rw [h.int_inv]; cases hk; rfl
  | list xs =>
    obtain ⟨p, vs, rfl, h1, _, h2⟩ := h.lst_inv
    cases hk
    exact .inl ⟨vs, .of h1, by rw [h2.isEmpty]⟩
  | tuple xs =>
    obtain ⟨p, vs, rfl, h1, _, h2⟩ := h.tup_inv
    cases hk
    exact .inr (.inl ⟨vs, h1.seq, by rw [h2.isEmpty]⟩)
  | _ => cases hk
theorem dt_tru (h : DE β r X e m) (he : ∀ whole, isTrue e X.env whole = (do let v ← whole; standAt e.pos; holding [v] (truthy v)) := by intro _; rfl) : DT β X e (mTru m) := pt_imp (pt_truth h he) fun σ H Q ⟨F, Ω, S, w, w', d, R, hm, q⟩ => by
  unfold mTru at hm
  obtain ⟨⟨dx, w1⟩, h1, hm⟩ := Option.bind_eq_some_iff.mp hm
  obtain ⟨k, h2, hm⟩ := Option.map_eq_some_iff.mp hm
  cases hm
  exact ⟨F, Ω, S, w, _, dx, R, h1, fun v H1 R1 e1 hv => ⟨_, dx_tru hv h2, q H1 R1 e1⟩⟩

/-! ### arguments, displays -/
theorem da_nil : DA β r X [] mNil := pa_imp pa_nil fun σ H Q ⟨F, Ω, S, w, w', d, R, hm, q⟩ => by
  cases hm
  exact q [] H R (Evs.refl _ _) .nil
theorem da_cons (h : DE β r X e m) (hr : DA β r X es mr) (hs : starEach (e :: es) X.env = (false, eval e X.env) :: starEach es X.env := by rfl) : DA β r X (e :: es) (mCons m mr) := pa_imp (pa_cons h hr hs) fun σ H Q ⟨F, Ω, S, w, w', d, R, hm, q⟩ => by
  unfold mCons at hm
  obtain ⟨⟨dx, w1⟩, h1, hm⟩ := Option.bind_eq_some_iff.mp hm
  obtain ⟨⟨ds, w2⟩, h2, hm⟩ := Option.map_eq_some_iff.mp hm
  cases hm
  exact ⟨F, Ω, S, w, w1, dx, R, h1, fun v H1 R1 e1 hv => ⟨F, Ω, S, w1, _, ds, R1, h2, fun vs H2 R2 e2 hvs => q (v :: vs) H2 R2 (e1.trans e2) (.cons (hv.mono R1 e2) hvs)⟩⟩
/-- a new tuple's object -/
def MkTup (β : Bool) (H : Hp) (vs : List V) (Q : VK) : Prop := match β with
  | false => ∀ p, H p = none → Q (.ref p) (upd H p (.tup vs))
  | true => ∀ (p : Addr) (o : Obj), H p = none → o.dict = none → Q (.ref p) (upd H p (.frz o (.tup vs)))
theorem new_tup {β : Bool} {F : Fx β} {H : Hp} {Ω : AS} {σ : L2.St} {S : SEnv} {w : Drw} {vs : List V} {ds : List PyData} {Q : VK} (R : Rel F H Ω σ S w) (h : DvA F.β Ω H vs ds) (hl : ds.length ≤ LB)
    (q : ∀ v H', Ext H H' → Dv F.β Ω H' v (.tuple ds) → Q v H') : MkTup F.β H vs Q := by
  have hz : vs.length ≤ LB := by rw [h.length]; exact hl
  unfold MkTup
  split
  · rename_i e
    intro p hp
    refine q _ _ (.new hp) (.tup ?_ (R.fresh hp) hz (h.grow (Ext.new hp).grow))
    rw [e]
    exact upd_same
  · rename_i e
    intro p o hp ho
    refine q _ _ (.new hp) (.tup ?_ (R.fresh hp) hz (h.grow (Ext.new hp).grow))
    rw [e]
    exact ⟨o, upd_same, ho⟩
/-- (a, b, ..): its object known -/
def tTupB (β : Bool) (t : TA) : TE := fun σ H Q => t σ H fun vs H1 => vs.length ≤ sizeLine ∧ MkTup β H1 vs Q
theorem obj_tup {X : Cx} {H' : Hp} {h : Heap} {p : Addr} {vs : List V} {us : List Value} (z : vs.length ≤ sizeLine) (r : Vals vs us) (e : h.get? p = some { cls := .type "tuple", data := .seq us.toArray }) : ObjOk X.prog X.w H' h p (.frz { cls := .type "tuple", data := .seq us.toArray } (.tup vs)) :=
  ⟨e, z, us, r, ⟨_, e, rfl, _, rfl⟩⟩
theorem pe_tupB {β : Bool} {k : Nat} {t : TA} {X : Cx} {es : List Expr} {pos : Pos} (h : PA X es t) : PE X (.Tuple es k pos) (tTupB β t) := by
  cases β with
  | false => exact pe_imp (pe_tup h) fun _ _ _ z => z
  | true =>
    refine ⟨fun pins s σ H Q I hq => wpAny_Tuple_spliced (thn (h.run pos pins s σ H _ I hq) fun us s1 ⟨vs, H1, I1, r, z, q⟩ => ⟨by rw [← r.length]; exact z, ?_⟩)⟩
    have hf : H1 s1.heap.objs.size = none := I1.hok.fresh (Nat.le_refl _)
    exact ⟨.ref s1.heap.objs.size, upd H1 s1.heap.objs.size (.frz _ (.tup vs)), I1.laid (t' := s1.toks) (fun b u e => Heap.get?_push_of_some _ e) (Nat.le_refl _) (obj_tup z r (Heap.get?_push_size _ rfl)), rfl, q _ _ hf rfl⟩
theorem new_lst {β : Bool} {F : Fx β} {H : Hp} {Ω : AS} {σ : L2.St} {S : SEnv} {w : Drw} {vs : List V} {ds : List PyData} {p : Addr} (R : Rel F H Ω σ S w) (h : DvA F.β Ω H vs ds) (hl : ds.length ≤ LB) (hp : H p = none) : Ext H (upd H p (.lst vs)) ∧ Dv F.β Ω (upd H p (.lst vs)) (.ref p) (.list ds) :=
  ⟨.new hp, .lst upd_same (R.fresh hp) (by rw [h.length]; exact hl) (h.grow (Ext.new hp).grow)⟩
theorem de_tup {k : Nat} (h : DA β .esc X es mr) : DE β .esc X (.Tuple es k pos) (mTup mr) := pe_imp (pe_tupB (β := β) h) fun σ H Q ⟨F, Ω, S, w, w', d, R, hm, q⟩ => by
  unfold mTup at hm
  obtain ⟨⟨ds, w1⟩, h1, hm⟩ := Option.bind_eq_some_iff.mp hm
  split at hm
  · rename_i hl
    cases hm
    refine ⟨F, Ω, S, w, _, ds, R, h1, fun vs H1 R1 e1 hvs => ⟨LB_line (by rw [hvs.dv.length]; exact hl), new_tup R1 hvs.dv hl fun v H2 e2 hv => q v H2 (R1.ex e2) (e1.trans e2.evs) hv⟩⟩
  · cases hm
theorem de_lst (h : DA β .esc X es mr) : DE β .esc X (.List es pos) (mLst mr) := pe_imp (pe_lst h) fun σ H Q ⟨F, Ω, S, w, w', d, R, hm, q⟩ => by
  unfold mLst at hm
  obtain ⟨⟨ds, w1⟩, h1, hm⟩ := Option.bind_eq_some_iff.mp hm
  split at hm
  · rename_i hl
    cases hm
    refine ⟨F, Ω, S, w, _, ds, R, h1, fun vs H1 R1 e1 hvs => ⟨LB_line (by rw [hvs.dv.length]; exact hl), fun p hp => ?_⟩⟩
    obtain ⟨e2, hv⟩ := new_lst R1 hvs.dv hl hp
    exact q _ _ (R1.ex e2) (e1.trans e2.evs) hv
  · cases hm

/-! ### calls of built-ins -/
def Fn (β : Bool) (r : Strg) (rl : List V → Hp → VK → Prop) (g : List PyData → Option PyData) : Prop := ∀ (F : Fx β) (H : Hp) (Ω : AS) (σ : L2.St) (S : SEnv) (w : Drw) (vs : List V) (ds : List PyData) (d : PyData) (Q : VK), Rel F H Ω σ S w → DxA r F Ω H vs ds → g ds = some d →
  (∀ v H', Ext H H' → Dv F.β Ω H' v d → Q v H') → rl vs H Q
theorem fn_imp {rl : List V → Hp → VK → Prop} {g : List PyData → Option PyData} (hg : Fn β r rl g) {σ : L2.St} {H : Hp} {Q : VK} (h : tEv β .esc (mF g mr) σ H Q) : tCB rl (tAs β r mr) σ H Q := by
  obtain ⟨F, Ω, S, w, w', d, R, hm, q⟩ := h
  unfold mF at hm
  obtain ⟨⟨ds, w1⟩, h1, hm⟩ := Option.bind_eq_some_iff.mp hm
  obtain ⟨d', h2, hm⟩ := Option.map_eq_some_iff.mp hm
  cases hm
  exact ⟨F, Ω, S, w, _, ds, R, h1, fun vs H1 R1 e1 hvs => hg F H1 Ω σ S _ vs ds _ Q R1 hvs h2 fun v H2 e2 hv => q v H2 (R1.ex e2) (e1.trans e2.evs) hv⟩
theorem de_callB {x : Str} {p : Pos} {id : String} {rl : List V → Hp → VK → Prop} {g : List PyData → Option PyData} (hc : CallR X (.builtin id) rl) (hf : Fn β r rl g) (hg : Gl X x) (hm : X.mg x = none) (hv : bootBuiltins x = some (.builtin id)) (ha : DA β r X (e :: es) mr)
    (hn : x ≠ "__name__" := by decide) (hdb : (x == ("__debug__" : Str)) = false := by decide) (he : starEach (e :: es) X.env = (false, eval e X.env) :: starEach es X.env := by rfl) (hpl : (backTo pos (starEach es X.env)).any (·.1) = false := by rfl) :
    DE β .esc X (.Call (.Name x p) (e :: es) [] pos) (mF g mr) := pe_imp (pe_callB hc hg hm hv ha hn hdb he hpl) fun _ _ _ h => fn_imp hf h
theorem de_callT {x : Str} {p : Pos} {T : String} {rl : List V → Hp → VK → Prop} {g : List PyData → Option PyData} (hc : CallR X (.type T) rl) (hf : Fn β r rl g) (hg : Gl X x) (hm : X.mg x = none) (hv : bootBuiltins x = some (.type T)) (ha : DA β r X (e :: es) mr)
    (hn : x ≠ "__name__" := by decide) (hdb : (x == ("__debug__" : Str)) = false := by decide) (he : starEach (e :: es) X.env = (false, eval e X.env) :: starEach es X.env := by rfl) (hpl : (backTo pos (starEach es X.env)).any (·.1) = false := by rfl) :
    DE β .esc X (.Call (.Name x p) (e :: es) [] pos) (mF g mr) := pe_imp (pe_callTy hc hg hm hv ha hn hdb he hpl) fun _ _ _ h => fn_imp hf h

end
end Mini

set_option Elab.async false
set_option linter.all false
set_option maxRecDepth 100000
set_option maxHeartbeats 4000000
set_option exponentiation.threshold 10000
/-! Mini C: operators, comparisons, indices, slices, built-ins over plain data. -/
namespace Mini
open PySem PySem.Spec PyProof.Rows L2

/-! ### data of a known depth, without dicts -/
def shp : Nat → PyData → Bool
  | _, .none => true
  | _, .bool _ => true
  | _, .int _ => true
  | _, .str _ => true
  | 0, .list _ => false
  | 0, .tuple _ => false
  | n + 1, .list xs => xs.all (shp n)
  | n + 1, .tuple xs => xs.all (shp n)
  | _, .dict _ => false
theorem shp_plain : ∀ (n : Nat) (d : PyData), shp n d = true → d.plain = true ∧ d.depth ≤ n
  | n, .none, _ => ⟨rfl, by simp [PyData.depth]⟩
  | n, .bool _, _ => ⟨rfl, by simp [PyData.depth]⟩
  | n, .int _, _ => ⟨rfl, by simp [PyData.depth]⟩
  | n, .str x, h => ⟨rfl, by simp [PyData.depth]⟩
  | 0, .list _, h => by simp [shp] at h
  | 0, .tuple _, h => by simp [shp] at h
  | n, .dict _, h => by cases n <;> simp [shp] at h
  | n + 1, .list xs, h => by
    have q : ∀ ys : List PyData, ys.all (shp n) = true → PyData.plainAll ys = true ∧ PyData.depthAll ys ≤ n := fun ys => by
      induction ys with
      | nil => intro _; exact ⟨rfl, by simp [PyData.depthAll]⟩
      | cons y ys ih =>
        intro k
        rw [List.all_cons, Bool.and_eq_true] at k
        obtain ⟨h1, h2⟩ := shp_plain n y k.1
        obtain ⟨h3, h4⟩ := ih k.2
        refine ⟨by simp [PyData.plainAll, h1, h3], ?_⟩
        simp only [PyData.depthAll]
        omega
    obtain ⟨h1, h2⟩ := q xs (by simpa [shp] using h)
    refine ⟨by simpa [PyData.plain] using h1, ?_⟩
    simp only [PyData.depth]
    omega
  | n + 1, .tuple xs, h => by
    have q : ∀ ys : List PyData, ys.all (shp n) = true → PyData.plainAll ys = true ∧ PyData.depthAll ys ≤ n := fun ys => by
      induction ys with
      | nil => intro _; exact ⟨rfl, by simp [PyData.depthAll]⟩
      | cons y ys ih =>
        intro k
        rw [List.all_cons, Bool.and_eq_true] at k
        obtain ⟨h1, h2⟩ := shp_plain n y k.1
        obtain ⟨h3, h4⟩ := ih k.2
        refine ⟨by simp [PyData.plainAll, h1, h3], ?_⟩
        simp only [PyData.depthAll]
        omega
    obtain ⟨h1, h2⟩ := q xs (by simpa [shp] using h)
    refine ⟨by simpa [PyData.plain] using h1, ?_⟩
    simp only [PyData.depth]
    omega
theorem shp_all {n : Nat} {xs : List PyData} (h : xs.all (shp n) = true) : PyData.plainAll xs = true ∧ PyData.depthAll xs ≤ n := by
  have h' : shp (n + 1) (.list xs) = true := h
  obtain ⟨h1, h2⟩ := shp_plain (n + 1) (.list xs) h'
  refine ⟨by simpa [PyData.plain] using h1, ?_⟩
  simp only [PyData.depth] at h2
  omega
mutual
theorem Dv.dp {K : PySem.W.Frag} {β : Bool} {Ω : AS} {H : Hp} : ∀ {n : Nat} {d : PyData} {v : V}, shp n d = true → Dv β Ω H v d → Dp K H v d
  | _, _, _, _, .non => .non
  | _, _, _, _, .bl b => .bl b
  | _, _, _, _, .int i => .int i
  | _, _, _, _, .str x => .str x
  | 0, _, _, h, .lst _ _ _ _ => by simp [shp] at h
  | 0, _, _, h, .tup _ _ _ _ => by simp [shp] at h
  | n + 1, _, _, h, .lst e _ _ r => .lst (.of e) (DvA.dp (n := n) (by simpa [shp] using h) r)
  | n + 1, _, _, h, .tup e _ _ r => .tup e.seq (DvA.dp (n := n) (by simpa [shp] using h) r)
  | n, _, _, h, .dK _ _ _ _ => by cases n <;> simp [shp] at h
  | n, _, _, h, .dT _ _ _ _ => by cases n <;> simp [shp] at h
theorem DvA.dp {K : PySem.W.Frag} {β : Bool} {Ω : AS} {H : Hp} : ∀ {n : Nat} {ds : List PyData} {vs : List V}, ds.all (shp n) = true → DvA β Ω H vs ds → DpAll K H vs ds
  | _, _, _, _, .nil => .nil
  | n, _, _, h, .cons h1 h2 => by
    rw [List.all_cons, Bool.and_eq_true] at h
    exact .cons (Dv.dp h.1 h1) (DvA.dp h.2 h2)
end
theorem Dx.dp {K : PySem.W.Frag} {r : Strg} {β : Bool} {F : Fx β} {Ω : AS} {H : Hp} {v : V} {n : Nat} {d : PyData} (s : shp n d = true) (h : Dx r F Ω H v d) : Dp K H v d := by
  cases d with
  | list ds =>
    obtain ⟨a, vs, rfl, h1, _, h2⟩ := h.lst_inv
    cases n with
    | zero => simp [shp] at s
    | succ n => exact .lst (.of h1) (DvA.dp (n := n) (by simpa [shp] using s) h2)
  | dict ps => cases n <;> simp [shp] at s
  | none => exact Dv.dp s (h.flat rfl)
  | bool b => exact Dv.dp s (h.flat rfl)
  | int i => exact Dv.dp s (h.flat rfl)
  | str x => exact Dv.dp s (h.flat rfl)
  | tuple ds => exact Dv.dp s (h.flat rfl)

theorem ite_some {α : Type} {c : Prop} [Decidable c] {a d : α} (h : (if c then some a else none) = some d) : c ∧ a = d := by
  by_cases k : c
  · rw [if_pos k] at h
    exact ⟨k, Option.some.inj h⟩
  · rw [if_neg k] at h
    cases h
/-! ### operations upon data -/
/-- factors that need not be looked at for their length -/
def bigN : Nat := 2 ^ 9000
def mulOk (i j : Int) : Prop := i.natAbs < 2 ^ 64 ∨ j.natAbs < 2 ^ 64 ∨ (i.natAbs < bigN ∧ j.natAbs < bigN)
instance (i j : Int) : Decidable (mulOk i j) := inferInstanceAs (Decidable (_ ∨ _ ∨ (_ ∧ _)))
def dAdd : PyData → PyData → Option PyData
  | .int i, .int j => some (.int (i + j))
  | .tuple xs, .tuple ys => if xs.length + ys.length ≤ LB then some (.tuple (xs ++ ys)) else none
  | .list xs, .list ys => if xs.length + ys.length ≤ LB then some (.list (xs ++ ys)) else none
  | _, _ => none
def dSub : PyData → PyData → Option PyData
  | .int i, .int j => some (.int (i - j))
  | _, _ => none
def dMul : PyData → PyData → Option PyData
  | .int i, .int j => if mulOk i j then some (.int (i * j)) else none
  | .list xs, .int k => if 0 ≤ k ∧ k.natAbs ≤ 1000000 ∧ xs.length * k.toNat ≤ LB then some (.list (List.replicate k.toNat xs).flatten) else none
  | _, _ => none
/-- a positive divisor -/
def dDiv : PyData → PyData → Option PyData
  | .int i, .int j => if 0 < j ∧ j.natAbs < bigN then some (.int (i / j)) else none
  | _, _ => none
def dMod : PyData → PyData → Option PyData
  | .int i, .int j => if 0 < j then some (.int (i % j)) else none
  | _, _ => none
/-- == and != of plain data -/
def rEqP (K : PySem.W.Frag) : R2 := fun x y H Q => ∃ d e, Dp K H x d ∧ Dp K H y e ∧ shp 8 d = true ∧ shp 8 e = true ∧ Q (.bl (PyData.eqv d e)) H
def rNeP (K : PySem.W.Frag) : R2 := fun x y H Q => ∃ d e, Dp K H x d ∧ Dp K H y e ∧ shp 8 d = true ∧ shp 8 e = true ∧ Q (.bl (!PyData.eqv d e)) H
theorem opr_eq {X : Cx} (hu : X.A.units + 64 < cLine) : OpR X (compareOp .Eq) (rEqP X.K) := by
  intro pins s σ H x y v u Q I rx ry ⟨d, e, hd, he, sd, se, q⟩
  obtain ⟨as, r1⟩ := Dp.reads I d x v hd rx
  obtain ⟨bs, r2⟩ := Dp.reads I e y u he ry
  obtain ⟨p1, z1⟩ := shp_plain 8 d sd
  obtain ⟨p2, z2⟩ := shp_plain 8 e se
  exact SeqAt.eq_plain r1 r2 p1 p2 (by omega) ⟨.bl _, H, I, rfl, q⟩
theorem opr_ne {X : Cx} (hu : X.A.units + 64 < cLine) : OpR X (compareOp .NotEq) (rNeP X.K) := by
  intro pins s σ H x y v u Q I rx ry ⟨d, e, hd, he, sd, se, q⟩
  obtain ⟨as, r1⟩ := Dp.reads I d x v hd rx
  obtain ⟨bs, r2⟩ := Dp.reads I e y u he ry
  obtain ⟨p1, z1⟩ := shp_plain 8 d sd
  obtain ⟨p2, z2⟩ := shp_plain 8 e se
  exact SeqAt.ne_plain r1 r2 p1 p2 (by omega) ⟨.bl _, H, I, rfl, q⟩
def dEq (a b : PyData) : Option PyData := if shp 8 a = true ∧ shp 8 b = true then some (.bool (PyData.eqv a b)) else none
def dNe (a b : PyData) : Option PyData := if shp 8 a = true ∧ shp 8 b = true then some (.bool (!PyData.eqv a b)) else none
def dCmp (p : Int → Int → Bool) : PyData → PyData → Option PyData
  | .int i, .int j => some (.bool (p i j))
  | _, _ => none
abbrev dLt := dCmp fun i j => decide (i < j)
abbrev dLe := dCmp fun i j => decide (i ≤ j)
abbrev dGt := dCmp fun i j => decide (j < i)
abbrev dGe := dCmp fun i j => decide (j ≤ i)
def isNone : PyData → Bool
  | .none => true
  | _ => false
def dIsN (a b : PyData) : Option PyData := match b with
  | .none => some (.bool (isNone a))
  | _ => none
def dNotN (a b : PyData) : Option PyData := match b with
  | .none => some (.bool (!isNone a))
  | _ => none
def dIx : PyData → PyData → Option PyData
  | .list xs, .int i => atI xs i
  | .tuple xs, .int i => atI xs i
  | _, _ => none

/-- t + u -/
def rCatB (β : Bool) (K : PySem.W.Frag) : R2 := fun x y H Q => ∃ a b xs ys, x = .ref a ∧ y = .ref b ∧ SqT K H a xs ∧ SqT K H b ys ∧ xs.length + ys.length ≤ sizeLine ∧
  (xs = [] → Q (.ref b) H) ∧ (xs ≠ [] → ys = [] → Q (.ref a) H) ∧ (xs ≠ [] → ys ≠ [] → MkTup β H (xs ++ ys) Q)
theorem opr_catB {X : Cx} : ∀ β, OpR X (binaryOp .Add) (rCatB β X.K)
  | false => fun pins s σ H x y v u Q I rx ry h => op_catA pins s σ H x y v u Q I rx ry h
  | true => by
    intro pins s σ H x y v u Q I rx ry ⟨a, b, xs, ys, ex, ey, ha, hb, hz, q0, q1, q2⟩
    by_cases hx : xs = []
    · exact op_catA pins s σ H x y v u Q I rx ry ⟨a, b, xs, ys, ex, ey, ha, hb, hz, q0, q1, fun z => absurd hx z⟩
    · by_cases hy : ys = []
      · exact op_catA pins s σ H x y v u Q I rx ry ⟨a, b, xs, ys, ex, ey, ha, hb, hz, q0, q1, fun _ z => absurd hy z⟩
      · subst ex; subst ey
        cases rx
        cases ry
        obtain ⟨its, r1, p1, _⟩ := I.tuple ha
        obtain ⟨its2, r2, p2, _⟩ := I.tuple hb
        refine HT.cat_tup p1 p2 (fun z => hx (r1.nil_iff.mp z)) (fun z => absurd (r2.nil_iff.mp z) hy) (fun _ => ?_) (by rw [← r1.length, ← r2.length]; exact hz)
        exact ⟨.ref s.heap.objs.size, _, I.laid (t' := s.toks) (o := .frz _ (.tup (xs ++ ys))) (fun b ob q => Heap.get?_push_of_some _ q) (Nat.le_refl _) (obj_tup (by rw [List.length_append]; exact hz) (r1.append r2) (Heap.get?_push_size _ rfl)), rfl, q2 hx hy _ _ (I.hok.fresh (Nat.le_refl _)) rfl⟩
theorem op_add' {β : Bool} {ra rb : Strg} {X : Cx} : Op2 β ra rb (fun x y H Q => (rI0 fun i j => .int (i + j)) x y H Q ∨ rCatB β X.K x y H Q ∨ rCat x y H Q) dAdd := by
  intro F H Ω σ S w x y dx dy d Q R hx hy hg q
  cases dx with
  | int i =>
    cases dy with
    | int j =>
      cases hg
      exact .inl ⟨i, j, hx.int_inv, hy.int_inv, q _ H (Ext.refl H) (.int _)⟩
    | _ => cases hg
  | tuple xs =>
    cases dy with
    | tuple ys =>
      obtain ⟨hl, rfl⟩ := ite_some hg
      have hx' := hx.flat rfl
      have hy' := hy.flat rfl
      obtain ⟨a, vs, ex, h2, n1, l1, r1⟩ := hx'.tup_inv
      obtain ⟨b, us, ey, k2, n2, l2, r2⟩ := hy'.tup_inv
      have le1 := r1.length
      have le2 := r2.length
      refine .inr (.inl ⟨a, b, vs, us, ex, ey, h2.seq, k2.seq, LB_line (by rw [le1, le2]; exact hl), fun e0 => ?_, fun _ e0 => ?_, fun _ _ => ?_⟩)
      · have z : xs = [] := by cases xs with | nil => rfl | cons _ _ => rw [e0] at le1; cases le1
        rw [z, List.nil_append] at q
        rw [← ey]
        exact q y H (Ext.refl H) hy'
      · have z : ys = [] := by cases ys with | nil => rfl | cons _ _ => rw [e0] at le2; cases le2
        rw [z, List.append_nil] at q
        rw [← ex]
        exact q x H (Ext.refl H) hx'
      · exact new_tup R (r1.append r2) (by rw [List.length_append]; exact hl) q
    | _ => cases hg
  | list xs =>
    cases dy with
    | list ys =>
      obtain ⟨hl, rfl⟩ := ite_some hg
      obtain ⟨a, vs, ex, h2, l1, r1⟩ := hx.lst_inv
      obtain ⟨b, us, ey, k2, l2, r2⟩ := hy.lst_inv
      have le1 := r1.length
      have le2 := r2.length
      refine .inr (.inr ⟨a, b, vs, us, ex, ey, h2, k2, LB_line (by rw [le1, le2]; exact hl), fun p hp => ?_⟩)
      obtain ⟨e1, hv⟩ := new_lst R (r1.append r2) (by rw [List.length_append]; exact hl) hp
      exact q _ _ e1 hv
    | _ => cases hg
  | _ => cases hg
abbrev rAdd (K : PySem.W.Frag) (β : Bool) : R2 := fun x y H Q => (rI0 fun i j => .int (i + j)) x y H Q ∨ rCatB β K x y H Q ∨ rCat x y H Q
theorem opr_add {X : Cx} (β : Bool) : OpR X (binaryOp .Add) (rAdd X.K β) := op_add.or ((opr_catB β).or op_cat)

theorem rep_flat {β : Bool} {Ω : AS} {H : Hp} {vs : List V} {ds : List PyData} (h : DvA β Ω H vs ds) : ∀ k : Nat, DvA β Ω H (List.replicate k vs).flatten (List.replicate k ds).flatten
  | 0 => .nil
  | k + 1 => by
    rw [List.replicate_succ, List.replicate_succ, List.flatten_cons, List.flatten_cons]
    exact h.append (rep_flat h k)
theorem rep_len {α : Type} (xs : List α) (k : Nat) : (List.replicate k xs).flatten.length = xs.length * k := by
  induction k with
  | zero => rfl
  | succ k ih => rw [List.replicate_succ, List.flatten_cons, List.length_append, ih, Nat.mul_succ, Nat.add_comm]
theorem log2_big {n : Nat} (h : n < bigN) : n.log2 < 9000 := by
  by_cases z : n = 0
  · rw [z]; decide
  · exact (Nat.log2_lt z).mpr h
theorem mulOk.ok {i j : Int} (h : mulOk i j) : IntMulOk i j := by
  rcases h with h | h | ⟨h1, h2⟩
  · exact CMul.ok (.inl ⟨by omega, by omega⟩)
  · exact CMul.ok (.inr ⟨by omega, by omega⟩)
  · have a := log2_big h1
    have b := log2_big h2
    exact CMulW.ok (show i.natAbs.log2 + j.natAbs.log2 < 1000000 by omega)
abbrev rMul : R2 := fun x y H Q => rI mulOk (fun i j => .int (i * j)) x y H Q ∨ rRep x y H Q
theorem opr_mul {X : Cx} : OpR X (binaryOp .Mult) rMul := (opI fun _ _ _ _ _ _ _ hc q => mul_int q (mulOk.ok hc)).or op_rep
theorem iop_mulW {X : Cx} : OpR X (inplaceOp .Mult) (rI mulOk fun i j => .int (i * j)) := opI fun _ _ _ _ _ _ _ hc q => imul_int q (mulOk.ok hc)
theorem op_mul' {ra rb : Strg} : Op2 β ra rb rMul dMul := by
  intro F H Ω σ S w x y dx dy d Q R hx hy hg q
  cases dx with
  | int i =>
    cases dy with
    | int j =>
      obtain ⟨hc, rfl⟩ := ite_some hg
      exact .inl ⟨i, j, hx.int_inv, hy.int_inv, hc, q _ H (Ext.refl H) (.int _)⟩
    | _ => cases hg
  | list xs =>
    cases dy with
    | int k =>
      obtain ⟨⟨h0, h1, hl⟩, rfl⟩ := ite_some hg
      obtain ⟨a, vs, ex, h2, l1, r1⟩ := hx.lst_inv
      have hz : vs.length * k.toNat ≤ LB := by rw [r1.length]; exact hl
      refine .inr ⟨a, k, vs, ex, hy.int_inv, h2, by omega, by omega, LB_line hz, fun p hp => ?_⟩
      obtain ⟨e1, hv⟩ := new_lst R (rep_flat r1 k.toNat) (by rw [rep_len]; exact hl) hp
      exact q _ _ e1 hv
    | _ => cases hg
  | _ => cases hg
/-! ints in, a value out -/
theorem op_ii {ra rb : Strg} {g : Int → Int → V} {gd : Int → Int → PyData} {f : PyData → PyData → Option PyData} (hf : ∀ a b d, f a b = some d → ∃ i j, a = .int i ∧ b = .int j ∧ d = gd i j) (hv : ∀ i j β Ω H, Dv β Ω H (g i j) (gd i j)) : Op2 β ra rb (rI0 g) f := by
  intro F H Ω σ S w x y dx dy d Q R hx hy hg q
  obtain ⟨i, j, rfl, rfl, rfl⟩ := hf _ _ _ hg
  exact ⟨i, j, hx.int_inv, hy.int_inv, q _ H (Ext.refl H) (hv i j F.β Ω H)⟩
theorem op_iic {ra rb : Strg} {C : Int → Int → Prop} {g : Int → Int → V} {gd : Int → Int → PyData} {f : PyData → PyData → Option PyData} (hf : ∀ a b d, f a b = some d → ∃ i j, a = .int i ∧ b = .int j ∧ C i j ∧ d = gd i j) (hv : ∀ i j β Ω H, Dv β Ω H (g i j) (gd i j)) : Op2 β ra rb (rI C g) f := by
  intro F H Ω σ S w x y dx dy d Q R hx hy hg q
  obtain ⟨i, j, rfl, rfl, hc, rfl⟩ := hf _ _ _ hg
  exact ⟨i, j, hx.int_inv, hy.int_inv, hc, q _ H (Ext.refl H) (hv i j F.β Ω H)⟩
theorem op_sub' {ra rb : Strg} : Op2 β ra rb (rI0 fun i j => .int (i - j)) dSub := op_ii (gd := fun i j => .int (i - j)) (fun a b d h => by
  cases a <;> first | cases h | (cases b <;> first | cases h; done | (cases h; exact ⟨_, _, rfl, rfl, rfl⟩) | cases h)) fun _ _ _ _ _ => .int _
theorem op_cmp' {ra rb : Strg} {p : Int → Int → Bool} : Op2 β ra rb (rI0 fun i j => .bl (p i j)) (dCmp p) := op_ii (gd := fun i j => .bool (p i j)) (fun a b d h => by
  cases a <;> first | (cases h; done) | (cases b <;> first | (cases h; exact ⟨_, _, rfl, rfl, rfl⟩) | cases h)) fun _ _ _ _ _ => .bl _
def CDivB (i j : Int) : Prop := 0 < j ∧ j.natAbs < bigN
theorem opr_div {X : Cx} : OpR X (binaryOp .FloorDiv) (rI CDivB fun i j => .int (i / j)) := opI fun i j _ _ _ _ _ hc q =>
  floordiv_int (Int.ne_of_gt hc.1) (by rw [Int.fdiv_eq_ediv_of_nonneg i (Int.le_of_lt hc.1)]; exact q) (.inl (PyProof.noPylong_of_log2 (log2_big hc.2)))
theorem op_div' {ra rb : Strg} : Op2 β ra rb (rI CDivB fun i j => .int (i / j)) dDiv := op_iic (gd := fun i j => .int (i / j)) (fun a b d h => by
  cases a <;> first | (cases h; done) | (cases b <;> first | (obtain ⟨hc, e⟩ := ite_some h; exact ⟨_, _, rfl, rfl, hc, e.symm⟩) | cases h)) fun _ _ _ _ _ => .int _
theorem op_mod' {ra rb : Strg} : Op2 β ra rb (rI (fun _ j => 0 < j) fun i j => .int (i % j)) dMod := op_iic (gd := fun i j => .int (i % j)) (fun a b d h => by
  cases a <;> first | (cases h; done) | (cases b <;> first | (obtain ⟨hc, e⟩ := ite_some h; exact ⟨_, _, rfl, rfl, hc, e.symm⟩) | cases h)) fun _ _ _ _ _ => .int _
theorem op_eq' {K : PySem.W.Frag} {ra rb : Strg} : Op2 β ra rb (rEqP K) dEq := by
  intro F H Ω σ S w x y dx dy d Q R hx hy hg q
  obtain ⟨⟨h1, h2⟩, rfl⟩ := ite_some hg
  exact ⟨dx, dy, hx.dp h1, hy.dp h2, h1, h2, q _ H (Ext.refl H) (.bl _)⟩
theorem op_ne' {K : PySem.W.Frag} {ra rb : Strg} : Op2 β ra rb (rNeP K) dNe := by
  intro F H Ω σ S w x y dx dy d Q R hx hy hg q
  obtain ⟨⟨h1, h2⟩, rfl⟩ := ite_some hg
  exact ⟨dx, dy, hx.dp h1, hy.dp h2, h1, h2, q _ H (Ext.refl H) (.bl _)⟩
theorem dx_none {r : Strg} {β : Bool} {F : Fx β} {Ω : AS} {H : Hp} {v : V} {d : PyData} (h : Dx r F Ω H v d) : decide (v = .non) = isNone d := by
  have of : ∀ {d : PyData}, Dv F.β Ω H v d → decide (v = .non) = isNone d := fun {d} h => by cases h <;> simp [isNone]
  cases r with
  | esc => exact of h
  | top =>
    rcases h with h | ⟨a, e, _, h⟩
    · exact of h
    · rw [e]
      cases d <;> first | exact False.elim h | simp [isNone]
theorem op_isN' {ra rb : Strg} : Op2 β ra rb (fun x y H Q => y = .non ∧ Q (.bl (decide (x = .non))) H) dIsN := by
  intro F H Ω σ S w x y dx dy d Q R hx hy hg q
  cases dy with
  | none =>
    cases hg
    exact ⟨hy.non_inv, q _ H (Ext.refl H) (by rw [dx_none hx]; exact .bl _)⟩
  | _ => cases hg
theorem op_notN' {ra rb : Strg} : Op2 β ra rb (fun x y H Q => y = .non ∧ Q (.bl (!decide (x = .non))) H) dNotN := by
  intro F H Ω σ S w x y dx dy d Q R hx hy hg q
  cases dy with
  | none =>
    cases hg
    exact ⟨hy.non_inv, q _ H (Ext.refl H) (by rw [dx_none hx]; exact .bl _)⟩
  | _ => cases hg
abbrev rIxX (K : PySem.W.Frag) : R2 := fun x y H Q => rIxL K x y H Q ∨ rIxT K x y H Q
theorem ixr {X : Cx} : IxR X (rIxX X.K) := ix_list.or ix_tup
theorem op_ix' {K : PySem.W.Frag} {ra rb : Strg} : Op2 β ra rb (rIxX K) dIx := by
  intro F H Ω σ S w x y dx dy d Q R hx hy hg q
  cases dx with
  | list xs =>
    cases dy with
    | int i =>
      obtain ⟨a, vs, ex, h2, l1, r1⟩ := hx.lst_inv
      obtain ⟨v, hv, dv⟩ := r1.at (show atI xs i = some d from hg)
      exact .inl ⟨a, vs, i, v, ex, hy.int_inv, .of h2, hv, q v H (Ext.refl H) dv⟩
    | _ => cases hg
  | tuple xs =>
    cases dy with
    | int i =>
      obtain ⟨a, vs, ex, h2, l1, r1⟩ := hx.tup_inv
      obtain ⟨v, hv, dv⟩ := r1.at (show atI xs i = some d from hg)
      exact .inr ⟨a, vs, i, v, ex, hy.int_inv, h2.seq, hv, q v H (Ext.refl H) dv⟩
    | _ => cases hg
  | _ => cases hg

section
variable {β : Bool} {X : Cx} {a b c e : Expr} {es : List Expr} {pos : Pos} {r ra rb rc : Strg} {ma mb mc m : ME} {ta tb : MT} {mr : MA} {k : Nat}
theorem de_add (ha : DE β ra X a ma) (hb : DE β rb X b mb) : DE β .esc X (.BinOp a .Add b pos) (m2 dAdd ma mb) := de_op (opr_add β) op_add' ha hb
theorem de_sub (ha : DE β ra X a ma) (hb : DE β rb X b mb) : DE β .esc X (.BinOp a .Sub b pos) (m2 dSub ma mb) := de_op op_sub op_sub' ha hb
theorem de_mul (ha : DE β ra X a ma) (hb : DE β rb X b mb) : DE β .esc X (.BinOp a .Mult b pos) (m2 dMul ma mb) := de_op opr_mul op_mul' ha hb
theorem de_div (ha : DE β ra X a ma) (hb : DE β rb X b mb) : DE β .esc X (.BinOp a .FloorDiv b pos) (m2 dDiv ma mb) := de_op opr_div op_div' ha hb
theorem de_mod (ha : DE β ra X a ma) (hb : DE β rb X b mb) : DE β .esc X (.BinOp a .Mod b pos) (m2 dMod ma mb) := de_op op_mod op_mod' ha hb
theorem de_index (ha : DE β ra X a ma) (hb : DE β rb X b mb) (hp : PlainIx b := by exact fun _ _ => rfl) : DE β .esc X (.Subscript a b pos) (m2 dIx ma mb) := de_ix ixr op_ix' ha hb hp
theorem de_lt (ha : DE β ra X a ma) (hb : DE β rb X b mb) : DE β .esc X (.Compare a [.Lt] [b] pos) (m2 dLt ma mb) := de_cmp op_lt op_cmp' ha hb (nomark b)
theorem de_le (ha : DE β ra X a ma) (hb : DE β rb X b mb) : DE β .esc X (.Compare a [.LtE] [b] pos) (m2 dLe ma mb) := de_cmp op_le op_cmp' ha hb (nomark b)
theorem de_gt (ha : DE β ra X a ma) (hb : DE β rb X b mb) : DE β .esc X (.Compare a [.Gt] [b] pos) (m2 dGt ma mb) := de_cmp op_gt op_cmp' ha hb (nomark b)
theorem de_ge (ha : DE β ra X a ma) (hb : DE β rb X b mb) : DE β .esc X (.Compare a [.GtE] [b] pos) (m2 dGe ma mb) := de_cmp op_ge op_cmp' ha hb (nomark b)
theorem de_eq (hr : Room k X.A) (ha : DE β ra X a ma) (hb : DE β rb X b mb) : DE β .esc X (.Compare a [.Eq] [b] pos) (m2 dEq ma mb) := de_cmp (opr_eq hr.units) op_eq' ha hb (nomark b)
theorem de_ne (hr : Room k X.A) (ha : DE β ra X a ma) (hb : DE β rb X b mb) : DE β .esc X (.Compare a [.NotEq] [b] pos) (m2 dNe ma mb) := de_cmp (opr_ne hr.units) op_ne' ha hb (nomark b)
theorem de_is (ha : DE β ra X a ma) (hb : DE β rb X b mb) : DE β .esc X (.Compare a [.Is] [b] pos) (m2 dIsN ma mb) := de_cmp op_isN op_isN' ha hb (nomark b)
theorem de_isnot (ha : DE β ra X a ma) (hb : DE β rb X b mb) : DE β .esc X (.Compare a [.IsNot] [b] pos) (m2 dNotN ma mb) := de_cmp op_notN op_notN' ha hb (nomark b)
theorem dt_lt (ha : DE β ra X a ma) (hb : DE β rb X b mb) : DT β X (.Compare a [.Lt] [b] pos) (mB (m2 dLt ma mb)) := dt_cmp op_lt op_cmp' ha hb (nomark b)
theorem dt_le (ha : DE β ra X a ma) (hb : DE β rb X b mb) : DT β X (.Compare a [.LtE] [b] pos) (mB (m2 dLe ma mb)) := dt_cmp op_le op_cmp' ha hb (nomark b)
theorem dt_gt (ha : DE β ra X a ma) (hb : DE β rb X b mb) : DT β X (.Compare a [.Gt] [b] pos) (mB (m2 dGt ma mb)) := dt_cmp op_gt op_cmp' ha hb (nomark b)
theorem dt_ge (ha : DE β ra X a ma) (hb : DE β rb X b mb) : DT β X (.Compare a [.GtE] [b] pos) (mB (m2 dGe ma mb)) := dt_cmp op_ge op_cmp' ha hb (nomark b)
theorem dt_eq (hr : Room k X.A) (ha : DE β ra X a ma) (hb : DE β rb X b mb) : DT β X (.Compare a [.Eq] [b] pos) (mB (m2 dEq ma mb)) := dt_cmp (opr_eq hr.units) op_eq' ha hb (nomark b)
theorem dt_ne (hr : Room k X.A) (ha : DE β ra X a ma) (hb : DE β rb X b mb) : DT β X (.Compare a [.NotEq] [b] pos) (mB (m2 dNe ma mb)) := dt_cmp (opr_ne hr.units) op_ne' ha hb (nomark b)
theorem dt_is (ha : DE β ra X a ma) (hb : DE β rb X b mb) : DT β X (.Compare a [.Is] [b] pos) (mB (m2 dIsN ma mb)) := dt_cmp op_isN op_isN' ha hb (nomark b)
theorem dt_isnot (ha : DE β ra X a ma) (hb : DE β rb X b mb) : DT β X (.Compare a [.IsNot] [b] pos) (mB (m2 dNotN ma mb)) := dt_cmp op_notN op_notN' ha hb (nomark b)
end
end Mini

set_option Elab.async false
set_option linter.all false
set_option maxRecDepth 100000
set_option maxHeartbeats 4000000
/-! Mini D: built-ins, slices, chains of comparisons over plain data. -/
namespace Mini
open PySem PySem.Spec PyProof.Rows L2

/-! ### items of a list or tuple that is looked at -/
theorem Dx.seq_inv {K : PySem.W.Frag} {r : Strg} {β : Bool} {F : Fx β} {Ω : AS} {H : Hp} {v : V} {d : PyData} {ds : List PyData} (h : Dx r F Ω H v d) (hd : d = .list ds ∨ d = .tuple ds) : ∃ a vs, v = .ref a ∧ (SqL K H a vs ∨ SqT K H a vs) ∧ vs.length ≤ LB ∧ DvA F.β Ω H vs ds := by
  rcases hd with rfl | rfl
  · obtain ⟨a, vs, e, h1, h2, h3⟩ := h.lst_inv
    exact ⟨a, vs, e, .inl (.of h1), h2, h3⟩
  · obtain ⟨a, vs, e, h1, h2, h3⟩ := h.tup_inv
    exact ⟨a, vs, e, .inr h1.seq, h2, h3⟩
def seqOf : PyData → Option (List PyData)
  | .list xs => some xs
  | .tuple xs => some xs
  | _ => none
theorem seqOf_inv {d : PyData} {xs : List PyData} (h : seqOf d = some xs) : d = .list xs ∨ d = .tuple xs := by
  cases d <;> first | (cases h; done) | (cases h; first | exact .inl rfl | exact .inr rfl)

/-! ### len -/
def dLen : List PyData → Option PyData
  | [.str x] => if x.length ≤ LB then some (.int x.length) else none
  | [.dict ps] => some (.int ps.length)
  | [d] => (seqOf d).map fun xs => .int xs.length
  | _ => none
def rLenD : List V → Hp → VK → Prop := fun xs H Q => ∃ (a : Addr) (kvs : List (Key × V)), xs = [.ref a] ∧ Rd H a (.dK kvs) ∧ Q (.int kvs.length) H
theorem call_lenD' {X : Cx} : CallR X (.builtin "len") rLenD := by
  intro pins s σ H xs us Q I r ⟨a, kvs, ex, ha, q⟩
  subst ex
  obtain ⟨u, rfl, ru⟩ := vals1 r
  cases ru
  exact d_len I ha fun t s' I' => ⟨.int kvs.length, H, I', ⟨t, rfl⟩, q⟩
theorem zip_len {α β : Type} {xs : List α} {ys : List β} (h : xs.length = ys.length) : (xs.zip ys).length = xs.length := by rw [List.length_zip, h, Nat.min_self]
/-- lists, tuples, texts; dicts whose keys are ints, texts -/
theorem fn_len {K : PySem.W.Frag} {r : Strg} : Fn β r (fun xs H Q => ∃ x n, xs = [x] ∧ LenV K x H n ∧ Q (.int n) H) fun ds => match ds with | [.dict _] => none | _ => dLen ds := by
  intro F H Ω σ S w vs ds d Q R hv hg q
  match ds, hg with
  | [e], hg =>
    obtain ⟨v, rfl, hx⟩ := hv.one
    cases e with
    | str x =>
      obtain ⟨hl, rfl⟩ := ite_some hg
      exact ⟨v, x.length, rfl, by rw [hx.str_inv]; exact ⟨LB_line hl, rfl⟩, q _ H (Ext.refl H) (.int _)⟩
    | list xs =>
      cases hg
      obtain ⟨a, us, e, h1, _, h2⟩ := hx.lst_inv
      exact ⟨v, xs.length, rfl, by rw [e]; exact .inl ⟨us, .of h1, h2.length.symm⟩, q _ H (Ext.refl H) (.int _)⟩
    | tuple xs =>
      cases hg
      obtain ⟨a, us, e, h1, _, h2⟩ := hx.tup_inv
      exact ⟨v, xs.length, rfl, by rw [e]; exact .inr ⟨us, h1.seq, h2.length.symm⟩, q _ H (Ext.refl H) (.int _)⟩
    | _ => cases hg
  | [], hg => cases hg
  | a :: b :: t, hg => cases a <;> cases hg

/-! ### abs, max, min of two ints, int(..) -/
def dAbs : List PyData → Option PyData
  | [.int i] => some (.int (if i < 0 then -i else i))
  | _ => none
theorem fn_abs {r : Strg} : Fn β r (fun xs H Q => ∃ i, xs = [.int i] ∧ Q (.int (if i < 0 then -i else i)) H) dAbs := by
  intro F H Ω σ S w vs ds d Q R hv hg q
  match ds, hg with
  | [.int i], hg =>
    cases hg
    obtain ⟨v, rfl, hx⟩ := hv.one
    exact ⟨i, by rw [hx.int_inv], q _ H (Ext.refl H) (.int _)⟩
def dMax2 : List PyData → Option PyData
  | [.int i, .int j] => some (.int (if j > i then j else i))
  | _ => none
def dMin2 : List PyData → Option PyData
  | [.int i, .int j] => some (.int (if j < i then j else i))
  | _ => none
theorem fn_max2 {r : Strg} : Fn β r (fun xs H Q => ∃ i j, xs = [.int i, .int j] ∧ Q (.int (if j > i then j else i)) H) dMax2 := by
  intro F H Ω σ S w vs ds d Q R hv hg q
  match ds, hg with
  | [.int i, .int j], hg =>
    cases hg
    obtain ⟨v, u, rfl, hx, hy⟩ := hv.two
    exact ⟨i, j, by rw [hx.int_inv, hy.int_inv], q _ H (Ext.refl H) (.int _)⟩
theorem fn_min2 {r : Strg} : Fn β r (fun xs H Q => ∃ i j, xs = [.int i, .int j] ∧ Q (.int (if j < i then j else i)) H) dMin2 := by
  intro F H Ω σ S w vs ds d Q R hv hg q
  match ds, hg with
  | [.int i, .int j], hg =>
    cases hg
    obtain ⟨v, u, rfl, hx, hy⟩ := hv.two
    exact ⟨i, j, by rw [hx.int_inv, hy.int_inv], q _ H (Ext.refl H) (.int _)⟩
def dInt : List PyData → Option PyData
  | [.int i] => some (.int i)
  | _ => none
theorem fn_int {r : Strg} : Fn β r (fun xs H Q => (∃ i, xs = [.int i] ∧ Q (.int i) H) ∨ ∃ k, xs = [.bl k] ∧ Q (.int (if k then 1 else 0)) H) dInt := by
  intro F H Ω σ S w vs ds d Q R hv hg q
  match ds, hg with
  | [.int i], hg =>
    cases hg
    obtain ⟨v, rfl, hx⟩ := hv.one
    exact .inl ⟨i, by rw [hx.int_inv], q _ H (Ext.refl H) (.int _)⟩

/-! ### isinstance -/
def tyName : PyData → Option String
  | .none => some "NoneType"
  | .bool _ => some "bool"
  | .int _ => some "int"
  | .str _ => some "str"
  | .list _ => some "list"
  | .tuple _ => some "tuple"
  | .dict _ => none
def dIsi (b : String) : List PyData → Option PyData
  | [d] => (tyName d).bind fun a => (kitB a b).map fun k => .bool k
  | _ => none
theorem dx_ty {K : PySem.W.Frag} {r : Strg} {β : Bool} {F : Fx β} {Ω : AS} {H : Hp} {v : V} {d : PyData} {a : String} (h : Dx r F Ω H v d) (e : tyName d = some a) : TyX K H v (.type a) := by
  cases d with
  | none => cases e; rw [h.non_inv]; exact .base .non
  | bool b => cases e; rw [h.bl_inv]; exact .base (.bl b)
  | int i => cases e; rw [h.int_inv]; exact .base (.int i)
  | str x => cases e; rw [h.str_inv]; exact .base (.str x)
  | list xs =>
    cases e
    obtain ⟨p, us, rfl, h1, _⟩ := h.lst_inv
    exact .base (.lst h1)
  | tuple xs =>
    cases e
    obtain ⟨p, us, rfl, h1, _⟩ := h.tup_inv
    rcases h1.rd with h1 | ⟨o, h1⟩
    · exact .base (.tup h1)
    · exact .fTuple h1
  | dict ps => cases e
/-- isinstance(x, T), T a built-in class -/
def rIsiB (K : PySem.W.Frag) (b : String) : List V → Hp → VK → Prop := fun xs H Q => ∃ (x : V) (a : String) (k : Bool), xs = [x, .ty b] ∧ TyX K H x (.type a) ∧ kitB a b = some k ∧ Q (.bl k) H
theorem call_isiB {X : Cx} {b : String} : CallR X (.builtin "isinstance") (rIsiB X.K b) := by
  intro pins s σ H xs us Q I r ⟨x, a, k, ex, ty, hk, q⟩
  exact call_isi pins s σ H xs us Q I r ⟨x, .ty b, .type a, .type b, k, ex, .ty b, ty, kit_ty hk, q⟩
def mIsi (b : String) (ma : ME) : ME := fun S w => (ma S w).bind fun p => (dIsi b [p.1]).map fun d => (d, p.2)
theorem de_isi {X : Cx} {x t : Str} {b : String} {r : Strg} {e : Expr} {ma : ME} {p p2 pos : Pos} (hg : Gl X x) (hm : X.mg x = none) (hv : bootBuiltins x = some (.builtin "isinstance")) (hg2 : Gl X t) (hm2 : X.mg t = none) (hv2 : bootBuiltins t = some (.type b)) (ha : DE β r X e ma)
    (hn : x ≠ "__name__" := by decide) (hdb : (x == ("__debug__" : Str)) = false := by decide) (hn2 : t ≠ "__name__" := by decide) (hdb2 : (t == ("__debug__" : Str)) = false := by decide)
    (hs : starEach (e :: [.Name t p2]) X.env = (false, eval e X.env) :: starEach [.Name t p2] X.env := by rfl) :
    DE β .esc X (.Call (.Name x p) [e, .Name t p2] [] pos) (mIsi b ma) := by
  have hb : PE X (.Name t p2) (tC (.ty b)) := pe_bltn (v := .ty b) hg2 hm2 hv2 rfl hn2 hdb2
  refine pe_imp (pe_callB (call_isiB (b := b)) hg hm hv (pa_cons ha (pa_cons hb pa_nil (by rfl)) hs) hn hdb hs (by rfl)) fun σ H Q ⟨F, Ω, S, w, w', d, R, hm, q⟩ => ?_
  unfold mIsi at hm
  obtain ⟨⟨dx, w1⟩, h1, hm⟩ := Option.bind_eq_some_iff.mp hm
  obtain ⟨d', h2, hm⟩ := Option.map_eq_some_iff.mp hm
  cases hm
  obtain ⟨a, h3, h4⟩ := Option.bind_eq_some_iff.mp (show ((tyName dx).bind fun a => (kitB a b).map fun k => PyData.bool k) = some d from h2)
  obtain ⟨k, h5, rfl⟩ := Option.map_eq_some_iff.mp h4
  exact ⟨F, Ω, S, w, _, dx, R, h1, fun v H1 R1 e1 hx => ⟨v, a, k, rfl, dx_ty hx h3, h5, q _ H1 R1 e1 (.bl k)⟩⟩

/-! ### tuple(..), list(..) -/
def dTuple : List PyData → Option PyData
  | [.list xs] => some (.tuple xs)
  | [.tuple xs] => some (.tuple xs)
  | _ => none
def rTupB (β : Bool) (K : PySem.W.Frag) : List V → Hp → VK → Prop := fun xs H Q => ∃ p ys, xs = [.ref p] ∧ ((SqL K H p ys ∧ MkTup β H ys Q) ∨ (SqT K H p ys ∧ Q (.ref p) H))
theorem call_tupB {X : Cx} : ∀ β, CallR X (.type "tuple") (rTupB β X.K)
  | false => fun pins s σ H xs us Q I r h => call_tuple_of pins s σ H xs us Q I r h
  | true => by
    intro pins s σ H xs us Q I r ⟨p, ys, ex, h⟩
    rcases h with ⟨hq, q⟩ | ⟨hq, q⟩
    · subst ex
      obtain ⟨u, rfl, rx⟩ := vals1 r
      cases rx
      obtain ⟨its, r', pl, hz⟩ := I.list hq
      have hlen := r'.length
      refine call_tuple_list pl.isList (fun h' kp => ?_) (by simp only [List.size_toArray] <;> omega)
      have I1 : Inv X pins σ H { s with heap := h' } := I.kept (t' := s.toks) kp
      exact ⟨.ref h'.objs.size, _, I1.laid (t' := s.toks) (o := .frz _ (.tup ys)) (fun b o e => Heap.get?_push_of_some _ e) (Nat.le_refl _) (obj_tup hz r' (Heap.get?_push_size _ rfl)), rfl, q _ _ (I1.hok.fresh (Nat.le_refl _)) rfl⟩
    · exact call_tuple_of pins s σ H xs us Q I r ⟨p, ys, ex, .inr ⟨hq, q⟩⟩
theorem fn_tuple {K : PySem.W.Frag} {r : Strg} {β : Bool} : Fn β r (rTupB β K) dTuple := by
  intro F H Ω σ S w vs ds d Q R hv hg q
  match ds, hg with
  | [.list xs], hg =>
    cases hg
    obtain ⟨v, rfl, hx⟩ := hv.one
    obtain ⟨a, us, e, h1, h2, h3⟩ := hx.lst_inv
    exact ⟨a, us, by rw [e], .inl ⟨.of h1, new_tup R h3 (by rw [← h3.length]; exact h2) q⟩⟩
  | [.tuple xs], hg =>
    cases hg
    obtain ⟨v, rfl, hx⟩ := hv.one
    obtain ⟨a, us, e, h1, h2, h3⟩ := hx.tup_inv
    exact ⟨a, us, by rw [e], .inr ⟨h1.seq, q (.ref a) H (Ext.refl H) (e ▸ hx.flat rfl)⟩⟩
def dList : List PyData → Option PyData
  | [d] => (seqOf d).map .list
  | _ => none
theorem fn_list {K : PySem.W.Frag} {r : Strg} : Fn β r (fun xs H Q => ∃ p ys, xs = [.ref p] ∧ (SqL K H p ys ∨ SqT K H p ys) ∧ ∀ l, H l = none → Q (.ref l) (upd H l (.lst ys))) dList := by
  intro F H Ω σ S w vs ds d Q R hv hg q
  match ds, hg with
  | [e], hg =>
    obtain ⟨xs, h1, rfl⟩ := Option.map_eq_some_iff.mp hg
    obtain ⟨v, rfl, hx⟩ := hv.one
    obtain ⟨a, us, ev, h2, h3, h4⟩ := hx.seq_inv (K := K) (seqOf_inv h1)
    refine ⟨a, us, by rw [ev], h2, fun p hp => ?_⟩
    obtain ⟨e1, hd⟩ := new_lst R h4 (by rw [← h4.length]; exact h3) hp
    exact q _ _ e1 hd

/-! ### sum, all, any -/
def intsOf : List PyData → Option (List Int)
  | [] => some []
  | .int i :: r => (intsOf r).map (i :: ·)
  | _ => none
theorem intsOf_inv : ∀ {ds : List PyData} {ns : List Int}, intsOf ds = some ns → ds = ns.map .int
  | [], ns, h => by cases h; rfl
  | .int i :: r, ns, h => by
    obtain ⟨ms, h1, rfl⟩ := Option.map_eq_some_iff.mp (show (intsOf r).map (i :: ·) = some ns from h)
    rw [intsOf_inv h1]
    rfl
  | .none :: _, _, h => nomatch h
  | .bool _ :: _, _, h => nomatch h
  | .str _ :: _, _, h => nomatch h
  | .list _ :: _, _, h => nomatch h
  | .tuple _ :: _, _, h => nomatch h
  | .dict _ :: _, _, h => nomatch h
theorem intsOf_map : ∀ ns : List Int, intsOf (ns.map .int) = some ns
  | [] => rfl
  | n :: ns => by
    show (intsOf (ns.map .int)).map (n :: ·) = _
    rw [intsOf_map ns]
    rfl
def bolsOf : List PyData → Option (List Bool)
  | [] => some []
  | .bool i :: r => (bolsOf r).map (i :: ·)
  | _ => none
theorem bolsOf_inv : ∀ {ds : List PyData} {ns : List Bool}, bolsOf ds = some ns → ds = ns.map .bool
  | [], ns, h => by cases h; rfl
  | .bool i :: r, ns, h => by
    obtain ⟨ms, h1, rfl⟩ := Option.map_eq_some_iff.mp (show (bolsOf r).map (i :: ·) = some ns from h)
    rw [bolsOf_inv h1]
    rfl
  | .none :: _, _, h => nomatch h
  | .int _ :: _, _, h => nomatch h
  | .str _ :: _, _, h => nomatch h
  | .list _ :: _, _, h => nomatch h
  | .tuple _ :: _, _, h => nomatch h
  | .dict _ :: _, _, h => nomatch h
theorem bolsOf_map : ∀ ns : List Bool, bolsOf (ns.map .bool) = some ns
  | [] => rfl
  | n :: ns => by
    show (bolsOf (ns.map .bool)).map (n :: ·) = _
    rw [bolsOf_map ns]
    rfl
def dSum : List PyData → Option PyData
  | [d] => (seqOf d).bind fun xs => (intsOf xs).map fun ns => .int ns.sum
  | _ => none
def rSumX (K : PySem.W.Frag) : List V → Hp → VK → Prop := fun vs H Q => ∃ (a : Addr) (ns : List Int), vs = [V.ref a] ∧ (SqL K H a (ns.map V.int) ∨ SqT K H a (ns.map V.int)) ∧ Q (.int ns.sum) H
theorem presum_ints {its : List Value} {ns : List Int} (hi : IntsAre its ns) : preSum (fun i => ns.getD i 0) its.toArray.size = ns.sum := by
  have hl : its.length = ns.length := hi.length.symm ▸ rfl
  rw [List.size_toArray, hl]
  have key : ∀ k, k ≤ ns.length → preSum (fun i => ns.getD i 0) k = (ns.take k).sum := fun k => by
    induction k with
    | zero => intro _; rfl
    | succ k ih =>
      intro hk
      show preSum _ k + ns.getD k 0 = _
      rw [ih (by omega), List.take_add_one, List.sum_append]
      have e : ns[k]? = some ns[k] := List.getElem?_eq_getElem (by omega)
      rw [List.getD_eq_getElem?_getD, e]
      simp
  rw [key _ (Nat.le_refl _), List.take_of_length_le (Nat.le_refl _)]
theorem call_sumX {X : Cx} (hc : X.calm = true) : CallR X (.builtin "sum") (rSumX X.K) := by
  intro pins s σ H vs us Q I r ⟨a, ns, ex, hs, q⟩
  rcases hs with hs | hs
  · exact cr_sum hc pins s σ H vs us Q I r ⟨a, ns, ex, hs, q⟩
  · subst ex
    rw [Vals.ref1 r]
    obtain ⟨its, rv, ht, hz⟩ := I.tuple hs
    have hi := rv.ints
    refine PySem.call_sum_walkAnyS (PySem.W.iter_tupleW (A := X.A.in1) (I.ok.hd hc) (show s.heap.IsTuple a its.toArray from ht) fun s₂ e W st hfp hw hk => ?_)
    refine ⟨_, _, _, _, _, _, _, fun i => ns.getD i 0, rfl, W, st, hfp, fun i v hv => ?_, fun s' t' m => ?_⟩
    · have hv' : its[i]? = some v := by simpa using hv
      have hlt : i < ns.length := by
        have h1 := (List.getElem?_eq_some_iff.mp hv').1
        have h2 := rv.length
        rw [List.length_map] at h2
        omega
      obtain ⟨u, hu, ru⟩ := rv.get (i := i) (x := .int ns[i]) (by rw [List.getElem?_map, List.getElem?_eq_getElem hlt]; rfl)
      rw [hv'] at hu
      cases hu
      obtain ⟨t, rfl⟩ := ru
      refine ⟨t, ?_⟩
      show Value.int ns[i] t = Value.int (ns.getD i 0) t
      rw [List.getD_eq_getElem?_getD, List.getElem?_eq_getElem hlt]
      rfl
    · obtain ⟨h', tk, rfl, hk'⟩ := PySem.W.moved_old e rfl m
      rw [presum_ints hi]
      exact ⟨.int ns.sum, H, I.kept hk', ⟨t', rfl⟩, q⟩
theorem fn_sum {K : PySem.W.Frag} {r : Strg} : Fn β r (rSumX K) dSum := by
  intro F H Ω σ S w vs ds d Q R hv hg q
  match ds, hg with
  | [e], hg =>
    obtain ⟨xs, h1, h2⟩ := Option.bind_eq_some_iff.mp (show ((seqOf e).bind fun xs => (intsOf xs).map fun ns => PyData.int ns.sum) = some d from hg)
    obtain ⟨ns, h3, rfl⟩ := Option.map_eq_some_iff.mp h2
    obtain ⟨v, rfl, hx⟩ := hv.one
    obtain ⟨a, us, ev, h4, h5, h6⟩ := hx.seq_inv (K := K) (seqOf_inv h1)
    rw [intsOf_inv h3] at h6
    have e2 := h6.ints
    subst e2
    exact ⟨a, ns, by rw [ev], h4, q _ H (Ext.refl H) (.int _)⟩
def dAll : List PyData → Option PyData
  | [.list xs] => (bolsOf xs).map fun bs => .bool (bs.all id)
  | _ => none
def dAny : List PyData → Option PyData
  | [.list xs] => (bolsOf xs).map fun bs => .bool (bs.any id)
  | _ => none
theorem fn_all {K : PySem.W.Frag} {r : Strg} : Fn β r (rAll K) dAll := by
  intro F H Ω σ S w vs ds d Q R hv hg q
  match ds, hg with
  | [.list xs], hg =>
    obtain ⟨bs, h1, rfl⟩ := Option.map_eq_some_iff.mp (show (bolsOf xs).map (fun bs => PyData.bool (bs.all id)) = some d from hg)
    obtain ⟨v, rfl, hx⟩ := hv.one
    obtain ⟨a, us, ev, h4, h5, h6⟩ := hx.lst_inv
    rw [bolsOf_inv h1] at h6
    have e2 := h6.bls
    subst e2
    exact ⟨a, bs, by rw [ev], .of h4, q _ H (Ext.refl H) (.bl _)⟩
theorem fn_any {K : PySem.W.Frag} {r : Strg} : Fn β r (rAny K) dAny := by
  intro F H Ω σ S w vs ds d Q R hv hg q
  match ds, hg with
  | [.list xs], hg =>
    obtain ⟨bs, h1, rfl⟩ := Option.map_eq_some_iff.mp (show (bolsOf xs).map (fun bs => PyData.bool (bs.any id)) = some d from hg)
    obtain ⟨v, rfl, hx⟩ := hv.one
    obtain ⟨a, us, ev, h4, h5, h6⟩ := hx.lst_inv
    rw [bolsOf_inv h1] at h6
    have e2 := h6.bls
    subst e2
    exact ⟨a, bs, by rw [ev], .of h4, q _ H (Ext.refl H) (.bl _)⟩

/-! ### max, min of a list or tuple of alike data -/
open PySem.W in
def alikeB (xs : List PyData) : Bool := xs.all fun x => !isNone x && xs.all (alike x)
open PySem.W in
theorem alikeB_ok {xs : List PyData} (h : alikeB xs = true) : AlikeAll xs := by
  unfold alikeB at h
  refine ⟨fun x hx y hy => ?_, fun x hx => ?_⟩
  · have k := List.all_eq_true.mp h x hx
    rw [Bool.and_eq_true] at k
    exact List.all_eq_true.mp k.2 y hy
  · have k := List.all_eq_true.mp h x hx
    rw [Bool.and_eq_true] at k
    rintro rfl
    exact absurd k.1 (by decide)
open PySem.W in
def dBest (g : PyData → List PyData → PyData) : List PyData → Option PyData
  | [d] => (seqOf d).bind fun xs => match xs with
    | [] => none
    | y :: ys => if alikeB (y :: ys) = true ∧ (y :: ys).all (shp 8) = true then some (g y ys) else none
  | _ => none
/-- by the place of the best one -/
def rBest (K : PySem.W.Frag) (g : PyData → List PyData → PyData) : List V → Hp → VK → Prop := fun vs H Q => ∃ (a : Addr) (xs : List V) (y : PyData) (ys : List PyData), vs = [V.ref a] ∧ (SqL K H a xs ∨ SqT K H a xs) ∧ DpAll K H xs (y :: ys) ∧
  alikeB (y :: ys) = true ∧ (y :: ys).all (shp 8) = true ∧ ∀ (i : Nat) v, xs[i]? = some v → (y :: ys)[i]? = some (g y ys) → Q v H
open PySem.W in
theorem best_fin {X : Cx} {pins : List (Addr × Obj)} {σ : L2.St} {H : Hp} {s : Shared} {Q : VK} {xs : List V} {y m : PyData} {ys : List PyData} (I : Inv X pins σ H s) (hsh : (y :: ys).all (shp 8) = true) (q : ∀ (i : Nat) v, xs[i]? = some v → (y :: ys)[i]? = some m → Q v H)
    {its : List Value} {as : List Addr} (rv : Vals xs its) (hr : ReadsAll s.heap its (y :: ys) as) (i : Nat) (v : Value) (h' : Heap) (tk : Nat) (bs : List Addr) (hv : its.toArray[i]? = some v) (rd : Reads h' v m bs) (hk : ∀ b o, s.heap.get? b = some o → h'.get? b = some o) :
    EP X pins σ Q v { s with heap := h', toks := tk } := by
  have hv' : its[i]? = some v := by simpa using hv
  obtain ⟨cs, r1, hlt, hm, _⟩ := readsAll_at hr i v hv'
  have e1 : (y :: ys).getD i .none = m := SeqAt.plain_unique _ _ _ _ _ (plain_mem (shp_all hsh).1 hm) (reads_keeps hk r1) rd
  have hx : i < xs.length := by rw [rv.length]; exact (List.getElem?_eq_some_iff.mp hv').1
  obtain ⟨u, hu', ru⟩ := rv.get (List.getElem?_eq_getElem hx)
  rw [hv'] at hu'
  cases hu'
  refine ⟨xs[i], H, I.kept hk, ru, q i _ (List.getElem?_eq_getElem hx) ?_⟩
  rw [← e1, List.getD_eq_getElem?_getD, List.getElem?_eq_getElem hlt]
  rfl
open PySem.W in
theorem call_minX {X : Cx} (hc : X.calm = true) (hu : X.A.units + 64 < cLine) : CallR X (.builtin "min") (rBest X.K minD) := by
  intro pins s σ H vs us Q I r ⟨a, xs, y, ys, ex, hs, hp, ha, hsh, q⟩
  subst ex
  rw [Vals.ref1 r]
  have dl := (shp_all hsh).2
  rcases hs with hs | hs
  · obtain ⟨its, rv, hl, hz⟩ := I.list hs
    obtain ⟨as, hr⟩ := Dp.readsAll I (y :: ys) _ its hp rv
    exact min_list_data (I.ok.hd hc) hl.isList (show ReadsAll s.heap its.toArray.toList (y :: ys) as from hr) (alikeB_ok ha) (by omega) fun i v h' tk bs hv rd hk => best_fin I hsh q rv hr i v h' tk bs hv rd hk
  · obtain ⟨its, rv, hl, hz⟩ := I.tuple hs
    obtain ⟨as, hr⟩ := Dp.readsAll I (y :: ys) _ its hp rv
    exact min_tuple_data (I.ok.hd hc) (show s.heap.IsTuple a its.toArray from hl) (show ReadsAll s.heap its.toArray.toList (y :: ys) as from hr) (alikeB_ok ha) (by omega) fun i v h' tk bs hv rd hk => best_fin I hsh q rv hr i v h' tk bs hv rd hk
open PySem.W in
theorem call_maxX {X : Cx} (hc : X.calm = true) (hu : X.A.units + 64 < cLine) : CallR X (.builtin "max") (rBest X.K maxD) := by
  intro pins s σ H vs us Q I r ⟨a, xs, y, ys, ex, hs, hp, ha, hsh, q⟩
  subst ex
  rw [Vals.ref1 r]
  have dl := (shp_all hsh).2
  rcases hs with hs | hs
  · obtain ⟨its, rv, hl, hz⟩ := I.list hs
    obtain ⟨as, hr⟩ := Dp.readsAll I (y :: ys) _ its hp rv
    exact max_list_data (I.ok.hd hc) hl.isList (show ReadsAll s.heap its.toArray.toList (y :: ys) as from hr) (alikeB_ok ha) (by omega) fun i v h' tk bs hv rd hk => best_fin I hsh q rv hr i v h' tk bs hv rd hk
  · obtain ⟨its, rv, hl, hz⟩ := I.tuple hs
    obtain ⟨as, hr⟩ := Dp.readsAll I (y :: ys) _ its hp rv
    exact max_tuple_data (I.ok.hd hc) (show s.heap.IsTuple a its.toArray from hl) (show ReadsAll s.heap its.toArray.toList (y :: ys) as from hr) (alikeB_ok ha) (by omega) fun i v h' tk bs hv rd hk => best_fin I hsh q rv hr i v h' tk bs hv rd hk
theorem fn_best {K : PySem.W.Frag} {r : Strg} {g : PyData → List PyData → PyData} : Fn β r (rBest K g) (dBest g) := by
  intro F H Ω σ S w vs ds d Q R hv hg q
  match ds, hg with
  | [e], hg =>
    obtain ⟨xs, h1, h2⟩ := Option.bind_eq_some_iff.mp hg
    cases xs with
    | nil => cases h2
    | cons y ys =>
      obtain ⟨⟨h3, h4⟩, rfl⟩ := ite_some h2
      obtain ⟨v, rfl, hx⟩ := hv.one
      obtain ⟨a, us, ev, h5, h6, h7⟩ := hx.seq_inv (K := K) (seqOf_inv h1)
      refine ⟨a, us, y, ys, by rw [ev], h5, DvA.dp h4 h7, h3, h4, fun i v hi hd => ?_⟩
      obtain ⟨d', e', dv⟩ := h7.get' hi
      rw [hd] at e'
      cases e'
      exact q v H (Ext.refl H) dv
/-! ### sorted of ints -/
def leB (a b : Int) : Bool := decide (a ≤ b)
def srtI (ns : List Int) : List Int := ns.mergeSort leB
theorem srtI_perm (ns : List Int) : (srtI ns).Perm ns := List.mergeSort_perm ns leB
theorem srtI_le (ns : List Int) : (srtI ns).Pairwise (· ≤ ·) := by
  have h := List.pairwise_mergeSort (le := leB) (fun a b c h1 h2 => by
    have a1 := of_decide_eq_true (p := a ≤ b) h1
    have a2 := of_decide_eq_true (p := b ≤ c) h2
    exact decide_eq_true (p := a ≤ c) (by omega)) (fun a b => by
    unfold leB
    rw [Bool.or_eq_true, decide_eq_true_eq, decide_eq_true_eq]
    omega) ns
  exact h.imp fun h => of_decide_eq_true h
theorem srt_one : ∀ {xs ys : List Int}, xs.Perm ys → xs.Pairwise (· ≤ ·) → ys.Pairwise (· ≤ ·) → xs = ys
  | [], ys, p, _, _ => by rw [List.Perm.nil_eq p]
  | x :: xs, [], p, _, _ => by have := p.length_eq; cases this
  | x :: xs, y :: ys, p, hx, hy => by
    have e : x = y := by
      have h1 : x ∈ y :: ys := p.mem_iff.mp List.mem_cons_self
      have h2 : y ∈ x :: xs := p.mem_iff.mpr List.mem_cons_self
      rcases List.mem_cons.mp h1 with e | h1
      · exact e
      · rcases List.mem_cons.mp h2 with e | h2
        · exact e.symm
        · have a := (List.pairwise_cons.mp hy).1 x h1
          have b := (List.pairwise_cons.mp hx).1 y h2
          omega
    subst e
    rw [srt_one (List.Perm.cons_inv p) (List.pairwise_cons.mp hx).2 (List.pairwise_cons.mp hy).2]
def dSortI : List PyData → Option PyData
  | [.list xs] => (intsOf xs).map fun ns => .list ((srtI ns).map .int)
  | _ => none
theorem fn_sortI {K : PySem.W.Frag} {r : Strg} : Fn β r (rSortedI K) dSortI := by
  intro F H Ω σ S w vs ds d Q R hv hg q
  match ds, hg with
  | [.list xs], hg =>
    obtain ⟨ns, h1, rfl⟩ := Option.map_eq_some_iff.mp (show (intsOf xs).map (fun ns => PyData.list ((srtI ns).map .int)) = some d from hg)
    obtain ⟨v, rfl, hx⟩ := hv.one
    obtain ⟨a, us, ev, h4, h5, h6⟩ := hx.lst_inv
    rw [intsOf_inv h1] at h6
    have e2 := h6.ints
    subst e2
    refine ⟨a, ns, by rw [ev], .of h4, fun ns' p hp hs hn => ?_⟩
    have e3 : ns' = srtI ns := srt_one (hp.trans (srtI_perm ns).symm) hs (srtI_le ns)
    subst e3
    obtain ⟨e1, hd⟩ := new_lst R (DvA.ofInts (srtI ns)) (by rw [List.length_map, (srtI_perm ns).length_eq]; rw [List.length_map] at h5; exact h5) hn
    exact q _ _ e1 hd

/-! ### t.count(x), t a tuple known to its object -/
def dCount : PyData → PyData → Option PyData
  | .tuple xs, d => if xs.all (shp 8) = true ∧ shp 8 d = true then some (.int ((xs.countP fun y => PyData.eqv y d : Nat) : Int)) else none
  | _, _ => none
/-- the value's type, by a tuple's known object -/
def tyT (x : V) (H : Hp) : Prop := ∃ (p : Addr) (o : Obj) (xs : List V), x = .ref p ∧ H p = some (.frz o (.tup xs)) ∧ o.dict = none
theorem tyT_is {X : Cx} {pins : List (Addr × Obj)} {σ : L2.St} {H : Hp} {s : Shared} {x : V} {v : Value} (I : Inv X pins σ H s) (r : RelV x v) (ty : tyT x H) : s.TypeIs v "tuple" ∧ ∀ a, v = .ref a → ∃ ob, s.heap.get? a = some ob ∧ ob.dict = none := by
  obtain ⟨p, o, xs, rfl, hp, hd⟩ := ty
  cases r
  obtain ⟨e, _, _, _, o2, h1, h2, _⟩ := (show ObjOk X.prog X.w H s.heap p (.frz o (.tup xs)) from I.hok p _ hp)
  refine ⟨⟨o2, h1, h2⟩, fun a q => ?_⟩
  cases q
  exact ⟨o, e, hd⟩
/-- a method of such a tuple -/
def tTM (rl : V → List V → Hp → VK → Prop) (to : TE) (ta : TA) : TE := fun σ H Q => to σ H fun x H1 => tyT x H1 ∧ ta σ H1 fun ys H2 => rl x ys H2 Q
theorem pe_tm {X : Cx} {o e : Expr} {es : List Expr} {to : TE} {ta : TA} {name : Str} {id : String} {apos cpos : Pos} {rl : V → List V → Hp → VK → Prop} (slot : Slot "tuple" name id) (hty : typeOf (.builtin id) = pure (.type "method_descriptor")) (hm : MtR X id rl) (ho : PE X o to) (ha : PA X (e :: es) ta)
    (hbase : attributeBase o name X.env (eval o X.env) = eval o X.env := by rfl)
    (hfew : ((backTo cpos (starEach (e :: es) X.env)).all (fun x => !x.1) && (backToKw cpos (keywordEach [] X.env)).all (fun x => x.1.isSome) && decide ((e :: es).length + ([] : List Keyword).length + (if ([] : List Keyword).isEmpty then 0 else 1) < 30)) = true := by rfl)
    (hline : (apos.endLine == cpos.line) = true := by rfl) (hs : starEach (e :: es) X.env = (false, eval e X.env) :: starEach es X.env := by rfl) (hplain : (backTo cpos (starEach es X.env)).any (·.1) = false := by rfl) : PE X (.Call (.Attribute o name apos) (e :: es) [] cpos) (tTM rl to ta) := by
  refine ⟨fun pins s σ H Q I h => wpAny_Call_method_late hbase hfew hline rfl (thn (ho.run pins s σ H _ I h) fun v s1 ⟨x, H1, I1, r1, ty, q1⟩ => ?_)⟩
  obtain ⟨h1, h2⟩ := tyT_is I1 r1 ty
  have hA := ha.run cpos pins s1 σ H1 _ I1 q1
  rw [hs] at hA ⊢
  exact ⟨"tuple", id, PySem.F.plainAttrs_tuple, slot, hty, h1, h2, Calls.callWith_builtin (show (false || (backTo cpos (starEach es X.env)).any (·.1)) = false by rw [hplain] <;> rfl)
    (Calls.evalArgs_plain (thn hA fun us s2 ⟨vs, H2, I2, r2, q2⟩ => hm pins s2 σ H2 x vs v us Q I2 r1 r2 q2))⟩
def rCountD (K : PySem.W.Frag) : V → List V → Hp → VK → Prop := fun x ys H Q => ∃ (a : Addr) (xs : List V) (y : V) (ds : List PyData) (d : PyData), x = .ref a ∧ ys = [y] ∧ SqT K H a xs ∧ DpAll K H xs ds ∧ Dp K H y d ∧ ds.all (shp 8) = true ∧ shp 8 d = true ∧ Q (.int ((ds.countP fun z => PyData.eqv z d : Nat) : Int)) H
open PySem.W in
theorem mt_countT {X : Cx} (hu : X.A.units + 64 < cLine) : MtR X "tuple.count" (rCountD X.K) := by
  intro pins s σ H x ys v us Q I rx rys ⟨a, xs, y, ds, d, ex, ey, hs, hp, hd, s1, s2, q⟩
  subst ex; subst ey
  cases rx
  obtain ⟨u, rfl, ru⟩ := vals1 rys
  obtain ⟨its, rv, ht, hz⟩ := I.tuple hs
  obtain ⟨as, hr⟩ := Dp.readsAll I ds _ its hp rv
  obtain ⟨bs, hx⟩ := Dp.reads I d y u hd ru
  obtain ⟨p1, z1⟩ := shp_all s1
  obtain ⟨p2, z2⟩ := shp_plain 8 d s2
  exact PySem.SeqAt.count_tuple_data (show s.heap.IsTuple a its.toArray from ht) (show ReadsAll s.heap its.toArray.toList ds as from hr) hx p1 p2 (by omega) ⟨.int _, H, I.tok _, ⟨_, rfl⟩, q⟩
def mCount (mo me : ME) : ME := m2 dCount mo me
/-- in a def whose tuples are known to their objects -/
theorem de_count {X : Cx} {o e : Expr} {mo me : ME} {ro re : Strg} {apos cpos : Pos} (hu : X.A.units + 64 < cLine) (ho : DE true ro X o mo) (he : DE true re X e me)
    (hbase : attributeBase o "count" X.env (eval o X.env) = eval o X.env := by rfl)
    (hfew : ((backTo cpos (starEach [e] X.env)).all (fun x => !x.1) && (backToKw cpos (keywordEach [] X.env)).all (fun x => x.1.isSome) && decide ([e].length + ([] : List Keyword).length + (if ([] : List Keyword).isEmpty then 0 else 1) < 30)) = true := by rfl)
    (hline : (apos.endLine == cpos.line) = true := by rfl) (hs : starEach [e] X.env = (false, eval e X.env) :: starEach [] X.env := by rfl) :
    DE true .esc X (.Call (.Attribute o "count" apos) [e] [] cpos) (mCount mo me) := by
  refine pe_imp (pe_tm PySem.F.slot_tuple_count PySem.F.type_tuple_count (mt_countT hu) ho (da_cons he da_nil hs) hbase hfew hline hs (by rfl)) fun σ H Q ⟨F, Ω, S, w, w', d, R, hm, q⟩ => ?_
  unfold mCount m2 at hm
  obtain ⟨⟨dx, w1⟩, h1, hm⟩ := Option.bind_eq_some_iff.mp hm
  obtain ⟨⟨dy, w2⟩, h2, hm⟩ := Option.bind_eq_some_iff.mp hm
  obtain ⟨d', h3, hm⟩ := Option.map_eq_some_iff.mp hm
  cases hm
  cases dx with
  | tuple xs =>
    obtain ⟨⟨h4, h5⟩, rfl⟩ := ite_some h3
    refine ⟨F, Ω, S, w, w1, .tuple xs, R, h1, fun x H1 R1 e1 hx => ?_⟩
    obtain ⟨a, vs, ex, t1, t2, t3⟩ := hx.tup_inv
    refine ⟨?_, F, Ω, S, w1, w2, [dy], R1, by unfold mCons mNil; rw [h2]; rfl, fun ys H2 R2 e2 hy => ?_⟩
    · obtain ⟨o, t1, t4⟩ := t1
      exact ⟨a, o, vs, ex, t1, t4⟩
    · obtain ⟨y, rfl, hy1⟩ := hy.one
      have hx2 := (hx.flat rfl).grow (R1.grow e2)
      obtain ⟨a2, vs2, ex2, t5, t6, t7, t8⟩ := hx2.tup_inv
      exact ⟨a2, vs2, y, xs, dy, ex2, rfl, t5.seq, DvA.dp h4 t8, hy1.dp h5, h4, h5, q _ H2 R2 (e1.trans e2) (Dv.int _)⟩
  | _ => cases h3
end Mini

set_option Elab.async false
set_option linter.all false
set_option maxRecDepth 100000
set_option maxHeartbeats 4000000
/-! Mini E: what is walked, targets, comprehensions. -/
namespace Mini
open PySem PySem.Spec PyProof.Rows L2

/-! ### items -/
/-- a value; or (z) a tuple that is only taken apart -/
def Item {β : Bool} (z : Bool) (F : Fx β) (Ω : AS) (H : Hp) (x : V) (d : PyData) : Prop := match z with
  | false => Dv β Ω H x d
  | true => ∃ (a : Addr) (xs : List V) (ds : List PyData), x = .ref a ∧ Rd H a (.tup xs) ∧ DvA β Ω H xs ds ∧ d = .tuple ds
def Stay {β : Bool} (r : Strg) (F : Fx β) (Ω : AS) (H : Hp) (Ω' : AS) (H' : Hp) : Prop := Grow Ω H Ω' H' ∧ (r = .top → Evs F.st H H')
structure Walk {β : Bool} (z : Bool) (r : Strg) (F : Fx β) (Ω : AS) (J : It) (H : Hp) (ds : List PyData) : Prop where
  stop : ∀ Ω' H' i, Stay r F Ω H Ω' H' → ds.length ≤ i → J.stop i H'
  go : ∀ Ω' H' i, Stay r F Ω H Ω' H' → i < ds.length → J.go i H'
  yld : ∀ Ω' H' i x H'' d, Stay r F Ω H Ω' H' → ds[i]? = some d → J.yld i H' x H'' → Ext H' H'' ∧ Item z F Ω' H'' x d
theorem Walk.top {β : Bool} {z : Bool} {r : Strg} {F : Fx β} {Ω : AS} {J : It} {H : Hp} {ds : List PyData} (h : Walk z r F Ω J H ds) : Walk z .top F Ω J H ds := by
  have k : ∀ {Ω' H'}, Stay .top F Ω H Ω' H' → Stay r F Ω H Ω' H' := fun s => ⟨s.1, fun _ => s.2 rfl⟩
  exact ⟨fun Ω' H' i s => h.stop Ω' H' i (k s), fun Ω' H' i s => h.go Ω' H' i (k s), fun Ω' H' i x H'' d s => h.yld Ω' H' i x H'' d (k s)⟩
theorem Dx.stay {β : Bool} {r : Strg} {F : Fx β} {Ω Ω' : AS} {H H' : Hp} {σ : L2.St} {S : SEnv} {w : Drw} {v : V} {d : PyData} (R : Rel F H Ω σ S w) (s : Stay r F Ω H Ω' H') (h : Dx r F Ω H v d) : Dx r F Ω' H' v d := by
  cases r with
  | esc => exact Dv.grow s.1 h
  | top =>
    rcases h with h | ⟨a, q, h0, h⟩
    · exact .inl (h.grow s.1)
    · obtain ⟨o, hO⟩ := h.some
      exact .inr ⟨a, q, h0, h.grow s.1 ((s.2 rfl a o hO fun z => R.old a (R.stΨ z).1 h0).trans hO.symm)⟩
def tIt (β : Bool) (z : Bool) (r : Strg) (m : MA) : TI := fun σ H R => ∃ (F : Fx β) (Ω : AS) (S : SEnv) (w w' : Drw) (ds : List PyData),
  Rel F H Ω σ S w ∧ m S w = some (ds, w') ∧ ∀ J H1, Rel F H1 Ω σ S w' → Evs F.st H H1 → Walk z r F Ω J H1 ds → R J H1
def DI (β : Bool) (z : Bool) (r : Strg) (X : Cx) (tg iter : Expr) (m : MA) : Prop := PI X tg iter (tIt β z r m)
theorem pi_imp {X : Cx} {tg iter : Expr} {t t' : TI} (h : PI X tg iter t) (k : ∀ σ H R, t' σ H R → t σ H R) : PI X tg iter t' := ⟨fun pins s σ H R I hw => h.run pins s σ H R I (k σ H R hw)⟩
theorem pi_or {X : Cx} {tg iter : Expr} {t t' : TI} (h : PI X tg iter t) (h' : PI X tg iter t') : PI X tg iter fun σ H R => t σ H R ∨ t' σ H R :=
  ⟨fun pins s σ H R I hw => hw.elim (h.run pins s σ H R I) (h'.run pins s σ H R I)⟩
theorem pg_imp {X : Cx} {tg : Expr} {t t' : TG} (h : PG X tg t) (k : ∀ v σ H R, t' v σ H R → t v σ H R) : PG X tg t' := ⟨fun pins s σ H v u R I r hw => h.run pins s σ H v u R I r (k v σ H R hw)⟩
theorem pgs_imp {X : Cx} {tg : List Expr} {t t' : TGs} (h : PGs X tg t) (k : ∀ v σ H R, t' v σ H R → t v σ H R) : PGs X tg t' := ⟨fun pins s σ H v u R I r hw => h.run pins s σ H v u R I r (k v σ H R hw)⟩

section
variable {β : Bool} {X : Cx} {e a b c tg : Expr} {es : List Expr} {pos p pt : Pos} {r : Strg} {z : Bool} {m ma : ME} {mr : MA}
theorem di_top {mi : MA} (h : DI β z .esc X tg e mi) : DI β z .top X tg e mi := pi_imp h fun σ H R ⟨F, Ω, S, w, w', ds, Rl, hm, q⟩ => ⟨F, Ω, S, w, w', ds, Rl, hm, fun J H1 R1 e1 wk => q J H1 R1 e1 wk.top⟩

/-! ### a list, a tuple -/
def mItems (m : ME) : MA := fun S w => (m S w).bind fun p => (seqOf p.1).map fun xs => (xs, p.2)
theorem walk_lst {F : Fx β} {Ω : AS} {H : Hp} {σ : L2.St} {S : SEnv} {w : Drw} {K : PySem.W.Frag} {v : V} {ds : List PyData} (R : Rel F H Ω σ S w) (h : Dx r F Ω H v (.list ds)) :
    ∃ a xs, v = .ref a ∧ SqL K H a xs ∧ Walk false r F Ω (Itl K a) H ds := by
  obtain ⟨a, vs, rfl, h1, h2, h3⟩ := h.lst_inv
  have st : ∀ Ω' H', Stay r F Ω H Ω' H' → ∃ vs', SqL K H' a vs' ∧ DvA β Ω' H' vs' ds := fun Ω' H' s => by
    obtain ⟨a', vs', e, k1, k2, k3⟩ := (h.stay R s).lst_inv
    cases e
    exact ⟨vs', .of k1, k3⟩
  refine ⟨a, vs, rfl, .of h1, ⟨fun Ω' H' i s hi => ?_, fun Ω' H' i s hi => ?_, fun Ω' H' i x H'' d s hd y => ?_⟩⟩
  · obtain ⟨vs', k1, k2⟩ := st Ω' H' s
    exact ⟨vs', k1, by rw [k2.length]; exact hi⟩
  · obtain ⟨vs', k1, k2⟩ := st Ω' H' s
    have hi' : i < vs'.length := by rw [k2.length]; exact hi
    exact ⟨vs', vs'[i], k1, List.getElem?_eq_getElem hi'⟩
  · obtain ⟨vs', k1, k2⟩ := st Ω' H' s
    obtain ⟨rfl, y⟩ := y
    obtain ⟨v, hv, dv⟩ := k2.get hd
    have := y vs' k1
    rw [hv] at this
    cases this
    exact ⟨Ext.refl _, dv⟩
theorem walk_tup {F : Fx β} {Ω : AS} {H : Hp} {σ : L2.St} {S : SEnv} {w : Drw} {K : PySem.W.Frag} {v : V} {ds : List PyData} (R : Rel F H Ω σ S w) (h : Dx r F Ω H v (.tuple ds)) :
    ∃ a xs, v = .ref a ∧ SqT K H a xs ∧ Walk false r F Ω (Itt K a) H ds := by
  obtain ⟨a, vs, rfl, h1, h2, h3⟩ := h.tup_inv
  have st : ∀ Ω' H', Stay r F Ω H Ω' H' → ∃ vs', SqT K H' a vs' ∧ DvA β Ω' H' vs' ds := fun Ω' H' s => by
    obtain ⟨a', vs', e, k1, k2, k3⟩ := (h.stay R s).tup_inv
    cases e
    exact ⟨vs', k1.seq, k3⟩
  refine ⟨a, vs, rfl, h1.seq, ⟨fun Ω' H' i s hi => ?_, fun Ω' H' i s hi => ?_, fun Ω' H' i x H'' d s hd y => ?_⟩⟩
  · obtain ⟨vs', k1, k2⟩ := st Ω' H' s
    exact ⟨vs', k1, by rw [k2.length]; exact hi⟩
  · obtain ⟨vs', k1, k2⟩ := st Ω' H' s
    have hi' : i < vs'.length := by rw [k2.length]; exact hi
    exact ⟨vs', vs'[i], k1, List.getElem?_eq_getElem hi'⟩
  · obtain ⟨vs', k1, k2⟩ := st Ω' H' s
    obtain ⟨rfl, y⟩ := y
    obtain ⟨v, hv, dv⟩ := k2.get hd
    have := y vs' k1
    rw [hv] at this
    cases this
    exact ⟨Ext.refl _, dv⟩
theorem di_seq (h : DE β r X e m) : DI β false r X tg e (mItems m) := by
  refine pi_imp (pi_or (pi_list h) (pi_tup h)) fun σ H R ⟨F, Ω, S, w, w', ds, Rl, hm, q⟩ => ?_
  unfold mItems at hm
  obtain ⟨⟨d, w1⟩, h1, hm⟩ := Option.bind_eq_some_iff.mp hm
  obtain ⟨xs, h2, hm⟩ := Option.map_eq_some_iff.mp hm
  cases hm
  rcases seqOf_inv h2 with rfl | rfl
  · refine .inl ⟨F, Ω, S, w, _, _, Rl, h1, fun v H1 R1 e1 hv => ?_⟩
    obtain ⟨a, ys, rfl, k1, k2⟩ := walk_lst (K := X.K) R1 hv
    exact ⟨a, rfl, ⟨ys, k1⟩, q _ H1 R1 e1 k2⟩
  · refine .inr ⟨F, Ω, S, w, _, _, Rl, h1, fun v H1 R1 e1 hv => ?_⟩
    obtain ⟨a, ys, rfl, k1, k2⟩ := walk_tup (K := X.K) R1 hv
    exact ⟨a, rfl, ⟨ys, k1⟩, q _ H1 R1 e1 k2⟩

/-! ### range -/
def rngD (lo c : Int) (n : Nat) : List PyData := (List.range n).map fun k => .int (lo + (k : Nat) * c)
theorem rngD_len {lo c : Int} {n : Nat} : (rngD lo c n).length = n := by simp [rngD]
theorem rngD_get {lo c : Int} {n i : Nat} {d : PyData} (h : (rngD lo c n)[i]? = some d) : i < n ∧ d = .int (lo + (i : Nat) * c) := by
  have hl : i < n := by
    have := (List.getElem?_eq_some_iff.mp h).1
    rw [rngD_len] at this
    exact this
  unfold rngD at h
  rw [List.getElem?_map, List.getElem?_range hl] at h
  cases h
  exact ⟨hl, rfl⟩
/-- by its size: the kernel looks at Nat numbers alone -/
def smallI (i : Int) : Bool := decide (i.natAbs < 2 ^ 61)
theorem smallI_ok {i : Int} (h : smallI i = true) : -(2 ^ 62) ≤ i ∧ i < 2 ^ 62 := by
  have := of_decide_eq_true h
  omega
def dRng1 : List PyData → Option (List PyData)
  | [.int j] => if smallI j = true then some (rngD 0 1 j.toNat) else none
  | _ => none
def dRng2 : List PyData → Option (List PyData)
  | [.int i, .int j] => if smallI i = true ∧ smallI j = true then some (rngD i 1 (j - i).toNat) else none
  | _ => none
/-- downwards by one -/
def dRng3 : List PyData → Option (List PyData)
  | [.int i, .int j, .int c] => if c = -1 ∧ smallI i = true ∧ smallI j = true then some (rngD i (-1) (i - j).toNat) else none
  | _ => none
def mRng (g : List PyData → Option (List PyData)) (a : MA) : MA := fun S w => (a S w).bind fun p => (g p.1).map fun xs => (xs, p.2)
abbrev mRng1 := mRng dRng1
abbrev mRng2 := mRng dRng2
abbrev mRng3 := mRng dRng3
theorem walk_rng {F : Fx β} {Ω : AS} {H : Hp} {lo : Int} {n : Nat} : Walk false r F Ω (Itr lo n) H (rngD lo 1 n) :=
  ⟨fun Ω' H' i s hi => by rw [rngD_len] at hi; exact hi, fun Ω' H' i s hi => by rw [rngD_len] at hi; exact hi, fun Ω' H' i x H'' d s hd y => by
    obtain ⟨rfl, rfl⟩ := y
    obtain ⟨_, rfl⟩ := rngD_get hd
    rw [Int.mul_one]
    exact ⟨Ext.refl _, .int _⟩⟩
theorem walk_rngC {F : Fx β} {Ω : AS} {H : Hp} {lo c : Int} {n : Nat} : Walk false r F Ω (Itc lo c n) H (rngD lo c n) :=
  ⟨fun Ω' H' i s hi => by rw [rngD_len] at hi; exact hi, fun Ω' H' i s hi => by rw [rngD_len] at hi; exact hi, fun Ω' H' i x H'' d s hd y => by
    obtain ⟨rfl, rfl⟩ := y
    obtain ⟨_, rfl⟩ := rngD_get hd
    exact ⟨Ext.refl _, .int _⟩⟩
theorem di_range1 (hg : Gl X "range") (hm : X.mg "range" = none) (ha : DA β .esc X [a] mr) (hs : starEach [a] X.env = [(false, eval a X.env)] := by rfl) : DI β false r X tg (.Call (.Name "range" p) [a] [] pos) (mRng1 mr) := by
  refine pi_imp (pi_range1 hg hm ha hs) fun σ H R ⟨F, Ω, S, w, w', ds, Rl, hm, q⟩ => ?_
  unfold mRng1 mRng at hm
  obtain ⟨⟨as, w1⟩, h1, hm⟩ := Option.bind_eq_some_iff.mp hm
  obtain ⟨xs, h2, hm⟩ := Option.map_eq_some_iff.mp hm
  cases hm
  refine ⟨F, Ω, S, w, _, as, Rl, h1, fun vs H1 R1 e1 hv => ?_⟩
  match as, h2, hv with
  | [.int j], h2, hv =>
    obtain ⟨h3, rfl⟩ := ite_some h2
    obtain ⟨v, rfl, hx⟩ := hv.one
    exact ⟨j, by rw [hx.int_inv], (smallI_ok h3).1, (smallI_ok h3).2, q _ H1 R1 e1 walk_rng⟩
theorem di_range2 (hg : Gl X "range") (hm : X.mg "range" = none) (ha : DA β .esc X [a, b] mr) (hs : starEach [a, b] X.env = [(false, eval a X.env), (false, eval b X.env)] := by rfl) (hs2 : starEach [b] X.env = [(false, eval b X.env)] := by rfl) : DI β false r X tg (.Call (.Name "range" p) [a, b] [] pos) (mRng2 mr) := by
  refine pi_imp (pi_range2 hg hm ha hs hs2) fun σ H R ⟨F, Ω, S, w, w', ds, Rl, hm, q⟩ => ?_
  unfold mRng2 mRng at hm
  obtain ⟨⟨as, w1⟩, h1, hm⟩ := Option.bind_eq_some_iff.mp hm
  obtain ⟨xs, h2, hm⟩ := Option.map_eq_some_iff.mp hm
  cases hm
  refine ⟨F, Ω, S, w, _, as, Rl, h1, fun vs H1 R1 e1 hv => ?_⟩
  match as, h2, hv with
  | [.int i, .int j], h2, hv =>
    obtain ⟨⟨h3, h4⟩, rfl⟩ := ite_some h2
    obtain ⟨v, u, rfl, hx, hy⟩ := hv.two
    exact ⟨i, j, by rw [hx.int_inv, hy.int_inv], ⟨(smallI_ok h3).1, (smallI_ok h3).2, (smallI_ok h4).1, (smallI_ok h4).2⟩, q _ H1 R1 e1 walk_rng⟩
theorem di_range3 (hg : Gl X "range") (hm : X.mg "range" = none) (ha : DA β .esc X [a, b, c] mr) (hs : starEach [a, b, c] X.env = (false, eval a X.env) :: starEach [b, c] X.env := by rfl) (hpl : (backTo pos (starEach [b, c] X.env)).any (·.1) = false := by rfl) : DI β false r X tg (.Call (.Name "range" p) [a, b, c] [] pos) (mRng3 mr) := by
  refine pi_imp (pi_range3 hg hm ha hs hpl) fun σ H R ⟨F, Ω, S, w, w', ds, Rl, hm, q⟩ => ?_
  unfold mRng3 mRng at hm
  obtain ⟨⟨as, w1⟩, h1, hm⟩ := Option.bind_eq_some_iff.mp hm
  obtain ⟨xs, h2, hm⟩ := Option.map_eq_some_iff.mp hm
  cases hm
  refine ⟨F, Ω, S, w, _, as, Rl, h1, fun vs H1 R1 e1 hv => ?_⟩
  match as, h2, hv with
  | [.int i, .int j, .int k], h2, hv =>
    obtain ⟨⟨h0, h3, h4⟩, rfl⟩ := ite_some h2
    cases hv with
    | cons hx t =>
      obtain ⟨v, u, rfl, hy, hz⟩ := t.two
      subst h0
      exact ⟨i, j, -1, (i - j).toNat, by rw [hx.int_inv, hy.int_inv, hz.int_inv], RgC.neg (smallI_ok h3).1 (smallI_ok h3).2 (smallI_ok h4).1 (smallI_ok h4).2, q _ H1 R1 e1 walk_rngC⟩

/-! ### enumerate, zip -/
def enumD : Nat → List PyData → List PyData
  | _, [] => []
  | k, d :: ds => .tuple [.int (k : Nat), d] :: enumD (k + 1) ds
theorem enumD_len : ∀ (k : Nat) (ds : List PyData), (enumD k ds).length = ds.length
  | _, [] => rfl
  | k, d :: ds => congrArg (· + 1) (enumD_len (k + 1) ds)
theorem enumD_get : ∀ {ds : List PyData} {k i : Nat} {d : PyData}, (enumD k ds)[i]? = some d → ∃ e, ds[i]? = some e ∧ d = .tuple [.int ((k + i : Nat) : Int), e]
  | [], _, _, _, h => by simp [enumD] at h
  | e :: ds, k, 0, d, h => by
    simp only [enumD, List.getElem?_cons_zero, Option.some.injEq] at h
    exact ⟨e, rfl, h.symm⟩
  | e :: ds, k, i + 1, d, h => by
    simp only [enumD, List.getElem?_cons_succ] at h
    obtain ⟨f, h1, h2⟩ := enumD_get h
    refine ⟨f, by simpa using h1, ?_⟩
    rw [h2, Nat.add_assoc, Nat.add_comm 1 i]
def mEnum (m : ME) : MA := fun S w => (m S w).bind fun p => match p.1 with
  | .list xs => some (enumD 0 xs, p.2)
  | _ => none
theorem item_pair {F : Fx β} {Ω : AS} {H : Hp} {T : Addr} {x y : V} {d e : PyData} (hT : H T = none) (hx : Dv β Ω H x d) (hy : Dv β Ω H y e) : Ext H (upd H T (.tup [x, y])) ∧ Item true F Ω (upd H T (.tup [x, y])) (.ref T) (.tuple [d, e]) :=
  ⟨.new hT, T, _, _, rfl, .inl upd_same, .cons (hx.grow (Ext.new hT).grow) (.cons (hy.grow (Ext.new hT).grow) .nil), rfl⟩
theorem di_enum {k : Nat} (hg : Gl X "enumerate") (hm : X.mg "enumerate" = none) (ha : DE β r X e m) (hs : starEach [e] X.env = [(false, eval e X.env)] := by rfl) : DI β true r X (.Tuple es k pt) (.Call (.Name "enumerate" p) [e] [] pos) (mEnum m) := by
  refine pi_imp (pi_enum hg hm (da_cons ha da_nil (by rw [hs] <;> rfl)) hs) fun σ H R ⟨F, Ω, S, w, w', ds, Rl, hm, q⟩ => ?_
  unfold mEnum at hm
  obtain ⟨⟨d, w1⟩, h1, hm⟩ := Option.bind_eq_some_iff.mp hm
  cases d with
  | list xs =>
    cases hm
    refine ⟨F, Ω, S, w, _, [.list xs], Rl, by unfold mCons mNil; rw [h1]; rfl, fun vs H1 R1 e1 hv => ?_⟩
    obtain ⟨v, rfl, hx⟩ := hv.one
    obtain ⟨a, us, rfl, l1, wk⟩ := walk_lst (K := X.K) R1 hx
    refine ⟨a, us, rfl, l1, q _ H1 R1 e1 ⟨fun Ω' H' i s hi => ?_, fun Ω' H' i s hi => ?_, fun Ω' H' i x H'' d s hd y => ?_⟩⟩
    · rw [enumD_len] at hi
      exact wk.stop Ω' H' i s hi
    · rw [enumD_len] at hi
      exact wk.go Ω' H' i s hi
    · obtain ⟨f, hf, rfl⟩ := enumD_get hd
      obtain ⟨T, x', rfl, hT, rfl, hx'⟩ := y
      have k := (wk.yld Ω' H' i x' H' f s hf ⟨rfl, hx'⟩).2
      rw [Nat.zero_add]
      exact item_pair hT (.int _) k
  | _ => cases hm
def zipD : List PyData → List PyData → List PyData
  | x :: xs, y :: ys => .tuple [x, y] :: zipD xs ys
  | _, _ => []
theorem zipD_len : ∀ xs ys : List PyData, (zipD xs ys).length = min xs.length ys.length
  | [], _ => by simp [zipD]
  | _ :: _, [] => by simp [zipD]
  | _ :: xs, _ :: ys => by simp only [zipD, List.length_cons, zipD_len xs ys]; omega
theorem zipD_get : ∀ {xs ys : List PyData} {i : Nat} {d : PyData}, (zipD xs ys)[i]? = some d → ∃ a b, xs[i]? = some a ∧ ys[i]? = some b ∧ d = .tuple [a, b]
  | [], _, _, _, h => by simp [zipD] at h
  | _ :: _, [], _, _, h => by simp [zipD] at h
  | x :: xs, y :: ys, 0, d, h => by
    simp only [zipD, List.getElem?_cons_zero, Option.some.injEq] at h
    exact ⟨x, y, rfl, rfl, h.symm⟩
  | x :: xs, y :: ys, i + 1, d, h => by
    simp only [zipD, List.getElem?_cons_succ] at h
    obtain ⟨a, b, h1, h2, h3⟩ := zipD_get h
    exact ⟨a, b, by simpa using h1, by simpa using h2, h3⟩
/-- both lists, or both tuples -/
def mZip (m m' : ME) : MA := fun S w => (m S w).bind fun p => (m' S p.2).bind fun q => match p.1, q.1 with
  | .list xs, .list ys => some (zipD xs ys, q.2)
  | .tuple xs, .tuple ys => some (zipD xs ys, q.2)
  | _, _ => none
theorem di_zip {k : Nat} {e2 : Expr} {m2 : ME} (hg : Gl X "zip") (hm : X.mg "zip" = none) (ha : DE β r X e m) (hb : DE β r X e2 m2)
    (hs : starEach [e, e2] X.env = (false, eval e X.env) :: starEach [e2] X.env := by rfl) (hs2 : starEach [e2] X.env = (false, eval e2 X.env) :: starEach [] X.env := by rfl) (hpl : (backTo pos (starEach [e2] X.env)).any (·.1) = false := by rfl) :
    DI β true r X (.Tuple es k pt) (.Call (.Name "zip" p) [e, e2] [] pos) (mZip m m2) := by
  refine pi_imp (RZ.pi_zipA hg hm (da_cons ha (da_cons hb da_nil hs2) hs) hs hpl) fun σ H R ⟨F, Ω, S, w, w', ds, Rl, hm, q⟩ => ?_
  unfold mZip at hm
  obtain ⟨⟨d, w1⟩, h1, hm⟩ := Option.bind_eq_some_iff.mp hm
  obtain ⟨⟨d2, w2⟩, h2, hm⟩ := Option.bind_eq_some_iff.mp hm
  refine ⟨F, Ω, S, w, w2, [d, d2], Rl, by unfold mCons mNil; simp only [h1, h2, Option.bind_some, Option.map_some], fun vs H1 R1 e1 hv => ?_⟩
  obtain ⟨v, u, rfl, hx, hy⟩ := hv.two
  cases d with
  | list xs =>
    cases d2 with
    | list ys =>
      cases hm
      obtain ⟨a, us, rfl, l1, wk⟩ := walk_lst (K := X.K) R1 hx
      obtain ⟨b, us2, rfl, l2, wk2⟩ := walk_lst (K := X.K) R1 hy
      refine ⟨a, b, us, us2, rfl, .inl ⟨l1, l2, q _ H1 R1 e1 ⟨fun Ω' H' i s hi => ?_, fun Ω' H' i s hi => ?_, fun Ω' H' i x H'' d s hd y => ?_⟩⟩⟩
      · rw [zipD_len] at hi
        by_cases hl : xs.length ≤ i
        · obtain ⟨zs, k1, k2⟩ := wk.stop Ω' H' i s hl
          by_cases hl2 : ys.length ≤ i
          · obtain ⟨zs2, k3, k4⟩ := wk2.stop Ω' H' i s hl2
            exact ⟨zs, zs2, k1, k3, .inl k2⟩
          · obtain ⟨zs2, x, k3, k4⟩ := wk2.go Ω' H' i s (by omega)
            exact ⟨zs, zs2, k1, k3, .inl k2⟩
        · obtain ⟨zs, x, k1, k2⟩ := wk.go Ω' H' i s (by omega)
          obtain ⟨zs2, k3, k4⟩ := wk2.stop Ω' H' i s (by omega)
          exact ⟨zs, zs2, k1, k3, .inr k4⟩
      · rw [zipD_len] at hi
        obtain ⟨zs, x, k1, k2⟩ := wk.go Ω' H' i s (by omega)
        obtain ⟨zs2, x2, k3, k4⟩ := wk2.go Ω' H' i s (by omega)
        exact ⟨zs, zs2, x, x2, k1, k3, k2, k4⟩
      · obtain ⟨f, g, hf, hg, rfl⟩ := zipD_get hd
        obtain ⟨T, x', y', rfl, hT, rfl, hx', hy'⟩ := y
        exact item_pair hT (wk.yld Ω' H' i x' H' f s hf ⟨rfl, hx'⟩).2 (wk2.yld Ω' H' i y' H' g s hg ⟨rfl, hy'⟩).2
    | _ => cases hm
  | tuple xs =>
    cases d2 with
    | tuple ys =>
      cases hm
      obtain ⟨a, us, rfl, l1, wk⟩ := walk_tup (K := X.K) R1 hx
      obtain ⟨b, us2, rfl, l2, wk2⟩ := walk_tup (K := X.K) R1 hy
      refine ⟨a, b, us, us2, rfl, .inr ⟨l1, l2, q _ H1 R1 e1 ⟨fun Ω' H' i s hi => ?_, fun Ω' H' i s hi => ?_, fun Ω' H' i x H'' d s hd y => ?_⟩⟩⟩
      · rw [zipD_len] at hi
        by_cases hl : xs.length ≤ i
        · obtain ⟨zs, k1, k2⟩ := wk.stop Ω' H' i s hl
          by_cases hl2 : ys.length ≤ i
          · obtain ⟨zs2, k3, k4⟩ := wk2.stop Ω' H' i s hl2
            exact ⟨zs, zs2, k1, k3, .inl k2⟩
          · obtain ⟨zs2, x, k3, k4⟩ := wk2.go Ω' H' i s (by omega)
            exact ⟨zs, zs2, k1, k3, .inl k2⟩
        · obtain ⟨zs, x, k1, k2⟩ := wk.go Ω' H' i s (by omega)
          obtain ⟨zs2, k3, k4⟩ := wk2.stop Ω' H' i s (by omega)
          exact ⟨zs, zs2, k1, k3, .inr k4⟩
      · rw [zipD_len] at hi
        obtain ⟨zs, x, k1, k2⟩ := wk.go Ω' H' i s (by omega)
        obtain ⟨zs2, x2, k3, k4⟩ := wk2.go Ω' H' i s (by omega)
        exact ⟨zs, zs2, x, x2, k1, k3, k2, k4⟩
      · obtain ⟨f, g, hf, hg, rfl⟩ := zipD_get hd
        obtain ⟨T, x', y', rfl, hT, rfl, hx', hy'⟩ := y
        exact item_pair hT (wk.yld Ω' H' i x' H' f s hf ⟨rfl, hx'⟩).2 (wk2.yld Ω' H' i y' H' g s hg ⟨rfl, hy'⟩).2
    | _ => cases hm
  | _ => cases d2 <;> cases hm
end

/-! ### targets -/
abbrev MG := PyData → SEnv → Option SEnv
abbrev MGs := List PyData → SEnv → Option SEnv
def pName (i : Nat) : MG := fun d S => some (S.set i (.val d))
def pTup (ps : MGs) : MG := fun d S => match d with
  | .tuple ds => ps ds S
  | _ => none
def pNil : MGs := fun ds S => match ds with
  | [] => some S
  | _ => none
def pCons (p : MG) (ps : MGs) : MGs := fun ds S => match ds with
  | d :: ds => (p d S).bind fun S1 => ps ds S1
  | _ => none
/-- but for these slots -/
def SameBut (us : List Nat) (σ σ' : L2.St) : Prop := σ'.length = σ.length ∧ ∀ i, i ∉ us → σ'[i]? = σ[i]?
theorem SameBut.refl (us : List Nat) (σ : L2.St) : SameBut us σ σ := ⟨rfl, fun _ _ => rfl⟩
theorem SameBut.mono {us vs : List Nat} {σ σ' : L2.St} (h : ∀ i ∈ us, i ∈ vs) (s : SameBut us σ σ') : SameBut vs σ σ' := ⟨s.1, fun i n => s.2 i fun z => n (h i z)⟩
theorem SameBut.trans {us : List Nat} {σ σ1 σ2 : L2.St} (a : SameBut us σ σ1) (b : SameBut us σ1 σ2) : SameBut us σ σ2 := ⟨b.1.trans a.1, fun i n => (b.2 i n).trans (a.2 i n)⟩
theorem wipe_at {σ : L2.St} {i : Nat} : ∀ {vs : List Nat}, i ∈ vs → i < σ.length → (wipe σ vs)[i]? = some none
  | [], h, _ => by cases h
  | v :: vs, h, hl => by
    unfold wipe
    by_cases e : v = i
    · rw [e, List.getElem?_set_self (by rw [wipe_length]; exact hl)]
    · rw [List.getElem?_set_ne e]
      rcases List.mem_cons.mp h with z | z
      · exact absurd z.symm e
      · exact wipe_at z hl
theorem SameBut.wipe {us : List Nat} {σ σ' : L2.St} (s : SameBut us σ σ') : wipe σ' us = wipe σ us := by
  refine List.ext_getElem? fun i => ?_
  by_cases h : i ∈ us
  · by_cases hl : i < σ.length
    · rw [wipe_at h hl, wipe_at h (by rw [s.1]; exact hl)]
    · rw [List.getElem?_eq_none (by rw [wipe_length, s.1]; omega), List.getElem?_eq_none (by rw [wipe_length]; omega)]
  · rw [wipe_out h, wipe_out h, s.2 i h]
theorem wipe_twice {σ : L2.St} (us : List Nat) : wipe (wipe σ us) us = wipe σ us := SameBut.wipe ⟨wipe_length σ us, fun i h => wipe_out h⟩
theorem Rel.setVal {β : Bool} {F : Fx β} {H : Hp} {Ω : AS} {σ : L2.St} {S : SEnv} {w : Drw} (R : Rel F H Ω σ S w) {v : V} {d : PyData} (i : Nat) (h : Dv β Ω H v d) : Rel F H Ω (σ.set i (some v)) (S.set i (.val d)) w := by
  have hne : ∀ (j : Nat) (e : PyData), (S.set i (.val d))[j]? = some (Sl.own e) → i ≠ j ∧ S[j]? = some (Sl.own e) := fun j e k => by
    by_cases hj : i = j
    · subst hj
      rw [List.getElem?_set] at k
      simp only [if_true] at k
      split at k
      · cases k
      · cases k
    · rw [List.getElem?_set_ne hj] at k
      exact ⟨hj, k⟩
  refine ⟨R.ext, R.base, R.dom, R.old, by rw [List.length_set, List.length_set]; exact R.len, fun j sl k => ?_, fun j1 j2 d1 d2 a k1 k2 s1 s2 => ?_, R.wok⟩
  · by_cases hj : i = j
    · subst hj
      rw [List.getElem?_set] at k
      simp only [if_true] at k
      split at k
      · rename_i hl
        cases k
        exact ⟨v, by rw [List.getElem?_set_self (by rw [← R.len]; exact hl)], h⟩
      · cases k
    · rw [List.getElem?_set_ne hj] at k
      have q := R.slot j sl k
      cases sl with
      | no => trivial
      | val e => obtain ⟨u, q1, q2⟩ := q; exact ⟨u, by rw [List.getElem?_set_ne hj]; exact q1, q2⟩
      | own e => obtain ⟨a, q1, q2, q3, q4⟩ := q; exact ⟨a, by rw [List.getElem?_set_ne hj]; exact q1, q2, q3, q4⟩
      | stt => obtain ⟨a, q1, q2⟩ := q; exact ⟨a, q1, by rw [List.getElem?_set_ne hj]; exact q2⟩
      | raw v => exact (List.getElem?_set_ne hj).trans q
  · obtain ⟨n1, k1⟩ := hne j1 d1 k1
    obtain ⟨n2, k2⟩ := hne j2 d2 k2
    rw [List.getElem?_set_ne n1] at s1
    rw [List.getElem?_set_ne n2] at s2
    exact R.uniq j1 j2 d1 d2 a k1 k2 s1 s2
def tPat (β : Bool) (z : Bool) (us : List Nat) (p : MG) : TG := fun v σ H Q => ∃ (F : Fx β) (Ω : AS) (S : SEnv) (w : Drw) (d : PyData) (S' : SEnv),
  Rel F H Ω σ S w ∧ Item z F Ω H v d ∧ p d S = some S' ∧ ∀ σ', Rel F H Ω σ' S' w → SameBut us σ σ' → Q σ' H
def tPats (β : Bool) (us : List Nat) (p : MGs) : TGs := fun vs σ H Q => ∃ (F : Fx β) (Ω : AS) (S : SEnv) (w : Drw) (ds : List PyData) (S' : SEnv),
  Rel F H Ω σ S w ∧ DvA β Ω H vs ds ∧ p ds S = some S' ∧ ∀ σ', Rel F H Ω σ' S' w → SameBut us σ σ' → Q σ' H
def DG (β : Bool) (z : Bool) (us : List Nat) (X : Cx) (tg : Expr) (p : MG) : Prop := PG X tg (tPat β z us p)
def DGs (β : Bool) (us : List Nat) (n : Nat) (X : Cx) (ts : List Expr) (p : MGs) : Prop := PGs X ts (tPats β us p) ∧ ∀ ds S S', p ds S = some S' → ds.length = n
section
variable {β : Bool} {X : Cx} {e a b c tg : Expr} {es : List Expr} {pos : Pos} {p : MG} {ps : MGs} {us : List Nat}
theorem dg_name {i : Nat} {x : Str} (hN : X.N.Nodup) (hi : X.N[i]? = some x) (hx : Loc X.env.scope x) (hu : i ∈ us := by decide) (hf : X.fn x = true ∨ X.env.scope.names.lookup x = some .local := by first | exact .inl rfl | exact .inr rfl | assumption) : DG β false us X (.Name x pos) (pName i) :=
  pg_imp (pg_name hN hi hx hf) fun v σ H Q ⟨F, Ω, S, w, d, S', R, hv, hp, q⟩ => by
    cases hp
    refine q _ (R.setVal i hv) ⟨by rw [List.length_set], fun j hj => ?_⟩
    exact List.getElem?_set_ne (fun z => hj (by rw [← z]; exact hu))
theorem dgs_nil : DGs β us 0 X [] pNil := by
  refine ⟨pgs_imp pgs_nil fun vs σ H Q ⟨F, Ω, S, w, ds, S', R, hv, hp, q⟩ => ?_, fun ds S S' h => ?_⟩
  · cases hv with
    | nil =>
      cases hp
      exact ⟨rfl, q σ R (SameBut.refl _ _)⟩
    | cons => cases hp
  · cases ds with
    | nil => rfl
    | cons => cases h
theorem dgs_cons {n : Nat} (h1 : DG β false us X e p) (h2 : DGs β us n X es ps) (hs : (assignEach (e :: es) X.env).map (·.2) = assign e X.env :: (assignEach es X.env).map (·.2) := by rfl) : DGs β us (n + 1) X (e :: es) (pCons p ps) :=
  ⟨pgs_imp (pgs_cons h1 h2.1 hs) fun vs σ H Q ⟨F, Ω, S, w, ds, S', R, hv, hp, q⟩ => by
    cases hv with
    | nil => cases hp
    | cons hd ht =>
      obtain ⟨S1, k1, k2⟩ := Option.bind_eq_some_iff.mp hp
      exact ⟨_, _, rfl, F, Ω, S, w, _, S1, R, hd, k1, fun σ1 R1 s1 => ⟨F, Ω, S1, w, _, S', R1, ht, k2, fun σ2 R2 s2 => q σ2 R2 (s1.trans s2)⟩⟩, fun ds S S' h => by
    cases ds with
    | nil => cases h
    | cons d ds =>
      obtain ⟨S1, k1, k2⟩ := Option.bind_eq_some_iff.mp (show ((p d S).bind fun S1 => ps ds S1) = some S' from h)
      exact congrArg (· + 1) (h2.2 ds S1 S' k2)⟩
theorem dg_tup {k n : Nat} (hc : X.calm = true) (h : DGs β us n X es ps) (hn : (assignEach es X.env).length = n := by rfl) (hst : (assignEach es X.env).findIdx? (·.1) = none := by rfl) : DG β true us X (.Tuple es k pos) (pTup ps) :=
  pg_imp (pg_tup hc h.1 hn hst) fun v σ H Q ⟨F, Ω, S, w, d, S', R, hv, hp, q⟩ => by
    obtain ⟨a, xs, ds, rfl, h1, h2, rfl⟩ := hv
    exact ⟨a, xs, rfl, .inl h1, by rw [h2.length]; exact h.2 ds S S' hp, F, Ω, S, w, ds, S', R, h2, hp, q⟩
/-- a tuple that is a value, too -/
theorem dg_tupV (h : DG β true us X tg (pTup ps)) : DG β false us X tg (pTup ps) := pg_imp h fun v σ H Q ⟨F, Ω, S, w, d, S', R, hv, hp, q⟩ => by
  cases d with
  | tuple ds =>
    obtain ⟨a, xs, rfl, h1, _, _, h2⟩ := Dv.tup_inv hv
    exact ⟨F, Ω, S, w, _, S', R, ⟨a, xs, ds, rfl, h1.rd, h2, rfl⟩, hp, q⟩
  | _ => cases hp
end

/-! ### [e for x in xs if c] -/
def wipeS (S : SEnv) : List Nat → SEnv
  | [] => S
  | v :: vs => (wipeS S vs).set v .no
theorem wipeS_length (S : SEnv) : ∀ vs : List Nat, (wipeS S vs).length = S.length
  | [] => rfl
  | v :: vs => by unfold wipeS; rw [List.length_set, wipeS_length S vs]
theorem wipeS_at {S : SEnv} {i : Nat} {x : Sl} : ∀ {vs : List Nat}, (wipeS S vs)[i]? = some x → x = .no ∨ (S[i]? = some x ∧ i ∉ vs)
  | [], h => .inr ⟨h, by simp⟩
  | v :: vs, h => by
    unfold wipeS at h
    by_cases hi : v = i
    · subst hi
      rw [List.getElem?_set] at h
      simp only [if_true] at h
      split at h
      · cases h; exact .inl rfl
      · cases h
    · rw [List.getElem?_set_ne hi] at h
      rcases wipeS_at h with z | ⟨z1, z2⟩
      · exact .inl z
      · exact .inr ⟨z1, by simp only [List.mem_cons, not_or]; exact ⟨fun e => hi e.symm, z2⟩⟩
theorem Rel.wipe {β : Bool} {F : Fx β} {H : Hp} {Ω : AS} {σ : L2.St} {S : SEnv} {w : Drw} (R : Rel F H Ω σ S w) (vs : List Nat) : Rel F H Ω (wipe σ vs) (wipeS S vs) w := by
  refine ⟨R.ext, R.base, R.dom, R.old, by rw [wipe_length, wipeS_length]; exact R.len, fun i sl k => ?_, fun i j d e a k1 k2 s1 s2 => ?_, R.wok⟩
  · rcases wipeS_at k with rfl | ⟨k, n⟩
    · trivial
    · have q := R.slot i sl k
      cases sl with
      | no => trivial
      | val e => obtain ⟨u, q1, q2⟩ := q; exact ⟨u, by rw [wipe_out n]; exact q1, q2⟩
      | own e => obtain ⟨a, q1, q2, q3, q4⟩ := q; exact ⟨a, by rw [wipe_out n]; exact q1, q2, q3, q4⟩
      | stt => obtain ⟨a, q1, q2⟩ := q; exact ⟨a, q1, by rw [wipe_out n]; exact q2⟩
      | raw v => exact (wipe_out n).trans q
  · rcases wipeS_at k1 with z | ⟨k1, n1⟩
    · cases z
    · rcases wipeS_at k2 with z | ⟨k2, n2⟩
      · cases z
      · exact R.uniq i j d e a k1 k2 (by rw [← wipe_out n1]; exact s1) (by rw [← wipe_out n2]; exact s2)
/-- one more object of the def's own -/
def Also (Ω : AS) (D : Addr) : AS := fun a => Ω a ∨ a = D
theorem Rel.also {β : Bool} {F : Fx β} {H H' : Hp} {Ω : AS} {σ : L2.St} {S : SEnv} {w w' : Drw} {D : Addr} (R : Rel F H Ω σ S w) (hD : H D = none) (e : Evs F.st H H') (k : WOk F.st F.cl F.Ψ H' w') (hn : H' D ≠ none) : Rel F H' (Also Ω D) σ S w' := by
  have R1 := R.evs e k
  refine ⟨R1.ext, fun a h => .inl (R1.base a h), fun a h => ?_, R1.old, R1.len, fun i sl hi => ?_, R1.uniq, k⟩
  · rcases h with h | h
    · exact R1.dom a h
    · rw [h]; exact hn
  · have g : Grow Ω H (Also Ω D) H' := ⟨fun a h => h.elim .inl fun z => .inr (by rw [z]; exact hD), R.evo e⟩
    have q := R.slot i sl hi
    cases sl with
    | no => trivial
    | val d =>
      obtain ⟨v, h1, h2⟩ := q
      exact ⟨v, h1, h2.grow g⟩
    | own d =>
      obtain ⟨a, h1, h2, h3, h4⟩ := q
      obtain ⟨o, ho⟩ := h4.some
      have hne : F.st ≠ some a := fun z => R.old a (R.stΨ z).1 h3
      exact ⟨a, h1, .inl h2, h3, h4.grow g ((e a o ho hne).trans ho.symm)⟩
    | stt => exact q
    | raw v => exact q
theorem Dv.less {β : Bool} {Ω Ω' : AS} {H : Hp} (h : ∀ a, Ω a → Ω' a) {v : V} {d : PyData} (k : Dv β Ω' H v d) : Dv β Ω H v d := k.grow ⟨fun a q => .inl (h a q), Evo.refl _ _⟩
theorem DvA.less {β : Bool} {Ω Ω' : AS} {H : Hp} (h : ∀ a, Ω a → Ω' a) {v : List V} {d : List PyData} (k : DvA β Ω' H v d) : DvA β Ω H v d := k.grow ⟨fun a q => .inl (h a q), Evo.refl _ _⟩
def lcGo (p : MG) (t : MT) (e : ME) (S : SEnv) : List PyData → Drw → Option (List PyData × Drw)
  | [], w => some ([], w)
  | d :: ds, w => (p d S).bind fun S1 => (t S1 w).bind fun q => if q.1 = true then (e S1 q.2).bind fun y => (lcGo p t e S ds y.2).map fun r => (y.1 :: r.1, r.2) else lcGo p t e S ds q.2
theorem lcGo_cons {p : MG} {t : MT} {e : ME} {S : SEnv} {d : PyData} {ds : List PyData} {w : Drw} : lcGo p t e S (d :: ds) w = (p d S).bind fun S1 => (t S1 w).bind fun q => if q.1 = true then (e S1 q.2).bind fun y => (lcGo p t e S ds y.2).map fun r => (y.1 :: r.1, r.2) else lcGo p t e S ds q.2 := rfl
def mYes : MT := fun _ w => some (true, w)
def mLc (mi : MA) (p : MG) (t : MT) (e : ME) (vs : List Nat) : ME := fun S w => (mi S w).bind fun q => (lcGo p t e (wipeS S vs) q.1 q.2).bind fun r => if r.1.length ≤ LB then some (.list r.1, r.2) else none
def DTs (β : Bool) (X : Cx) (ifs : List Expr) (t : MT) : Prop := PTs X ifs (tTs β t)
section
variable {β : Bool} {X : Cx} {tg iter elt c : Expr} {ifs : List Expr} {scope : Scope} {own : List (Str × Nat)} {pos : Pos} {p : MG} {mi : MA} {mt : MT} {me : ME} {us : List Nat} {z : Bool}
theorem pts_imp {t t' : TT} (h : PTs X ifs t) (k : ∀ σ H Q, t' σ H Q → t σ H Q) : PTs X ifs t' := ⟨fun pins s σ H Q I hw => h.run pins s σ H Q I (k σ H Q hw)⟩
theorem dts_nil : DTs β X [] mYes := pts_imp pts_nil fun σ H Q ⟨F, Ω, S, w, w', b, R, hm, q⟩ => by
  cases hm
  exact q H R (Evs.refl _ _)
theorem dts_one (h : DT β X c mt) : DTs β X [c] mt := pts_one h
/-- a value that is a new object of the def's own -/
def tFr (β : Bool) (m : ME) : TE := fun σ H Q => ∃ (F : Fx β) (Ω : AS) (S : SEnv) (w w' : Drw) (d : PyData),
  Rel F H Ω σ S w ∧ m S w = some (d, w') ∧ ∀ a H', Rel F H' Ω σ S w' → Evs F.st H H' → H a = none → OwnAt β (Also Ω a) H' a d → Q (.ref a) H'
def DF (β : Bool) (X : Cx) (e : Expr) (m : ME) : Prop := PE X e (tFr β m)
theorem OwnAt.dv {β : Bool} {Ω : AS} {H : Hp} {a : Addr} {d : PyData} (n : ¬ Ω a) (h : OwnAt β (Also Ω a) H a d) : Dv β Ω H (.ref a) d := by
  cases d with
  | list ds =>
    obtain ⟨vs, h1, h2, h3⟩ := h
    exact .lst h1 n h2 (h3.less fun a h => .inl h)
  | dict ps =>
    rcases h with ⟨kvs, ds, h1, h2, h3, rfl⟩ | ⟨kvs, ds, h1, h2, h3, rfl⟩
    · exact .dK (.inl h1) n h2 (h3.less fun a h => .inl h)
    · exact .dT (.inl h1) n h2 (h3.less fun a h => .inl h)
  | _ => exact False.elim h
theorem de_of_fr {m : ME} {e : Expr} (h : DF β X e m) : DE β .esc X e m := pe_imp h fun σ H Q ⟨F, Ω, S, w, w', d, R, hm, q⟩ =>
  ⟨F, Ω, S, w, w', d, R, hm, fun a H' R' e' hn ho => q (.ref a) H' R' e' (ho.dv fun z => R.dom a z hn)⟩
theorem lc_walk {vs : List Nat} {F : Fx β} {Ω : AS} {σ : L2.St} {S : SEnv} {w1 w2 : Drw} {ds rs : List PyData} {J : It} {H1 : Hp} {Q : VK} (R1 : Rel F H1 Ω σ S w1) (wk : Walk z .top F Ω J H1 ds) (h2 : lcGo p mt me (wipeS S vs) ds w1 = some (rs, w2)) (hl : rs.length ≤ LB)
    (q : ∀ D H', H1 D = none → Rel F H' Ω σ S w2 → Evs F.st H1 H' → OwnAt β (Also Ω D) H' D (.list rs) → Q (.ref D) H') (D : Addr) (hD : H1 D = none) :
    ∃ W : Nat → Nat → Hp → Prop, (∃ m, W 0 m (upd H1 D (.lst []))) ∧ ∀ i m H, W i m H →
      (J.stop i H ∧ Q (.ref D) H) ∨ (J.go i H ∧ ∃ Nx : Hp → Prop, (∀ H', Nx H' → ∃ m', m' < m ∧ W (i + 1) m' H') ∧ ∀ x H', J.yld i H x H' → tPat β z vs p x (L2.wipe σ vs) H' fun σ2 H2 => L2.wipe σ2 vs = L2.wipe σ vs ∧ tTs β mt σ2 H2 fun b H3 =>
        if b = true then tEv β .esc me σ2 H3 fun y H4 => ∃ acc, H4 D = some (.lst acc) ∧ acc.length < sizeLine ∧ Nx (upd H4 D (.lst (acc ++ [y]))) else Nx H3) := by
  let Inv : Nat → Hp → Prop := fun i H' => ∃ wi accv accd rest, Evs F.st H1 H' ∧ WOk F.st F.cl F.Ψ H' wi ∧ H' D = some (.lst accv) ∧ DvA β (Also Ω D) H' accv accd ∧ lcGo p mt me (wipeS S vs) (ds.drop i) wi = some (rest, w2) ∧ rs = accd ++ rest
  have ax : ∀ {H' xs}, Evs F.st H1 H' → Evs F.st H1 (upd H' D (.lst xs)) := fun e a o h n => by
    rw [upd_ne (ne_of_none h hD)]
    exact e a o h n
  have wx : ∀ {H' : Hp} {xs wi}, WOk F.st F.cl F.Ψ H' wi → WOk F.st F.cl F.Ψ (upd H' D (.lst xs)) wi := fun {H' xs wi} k => by
    cases hst : F.st with
    | none => trivial
    | some s =>
      have n1 : ∀ a, F.Ψ a → a ≠ D := fun a ha hz => R1.dom a (R1.base a ha) (by rw [hz]; exact hD)
      rw [hst] at k
      obtain ⟨k0, k1, k2, k3, k4, k5⟩ := k
      exact ⟨k0, k1, k2, by rw [upd_ne (n1 _ k0)]; exact k3, by rw [upd_ne (n1 _ k1)]; exact k4, k5⟩
  refine ⟨fun i m H' => m = ds.length - i ∧ i ≤ ds.length ∧ Inv i H', ⟨ds.length, by simp, Nat.zero_le _, w1, [], [], rs, ax (Evs.refl _ _), wx R1.wok, upd_same, .nil, h2, rfl⟩, ?_⟩
  rintro i m H' ⟨rfl, hi, wi, accv, accd, rest, ev, wok, hDl, hacc, hgo, hrs⟩
  have gr : Grow Ω H1 (Also Ω D) H' := ⟨fun a h => h.elim .inl fun z => .inr (by rw [z]; exact hD), R1.evo ev⟩
  have st : Stay .top F Ω H1 (Also Ω D) H' := ⟨gr, fun _ => ev⟩
  by_cases hlt : i < ds.length
  · refine .inr ⟨wk.go _ H' i st hlt, Inv (i + 1), fun H'' p' => ⟨ds.length - (i + 1), by omega, rfl, hlt, p'⟩, fun x H2 y => ?_⟩
    rw [List.drop_eq_getElem_cons hlt] at hgo
    unfold lcGo at hgo
    obtain ⟨S1, g1, hgo⟩ := Option.bind_eq_some_iff.mp hgo
    obtain ⟨⟨b, wb⟩, g2, hgo⟩ := Option.bind_eq_some_iff.mp hgo
    obtain ⟨ex, hit⟩ := wk.yld _ H' i x H2 _ st (List.getElem?_eq_getElem hlt) y
    have R2 : Rel F H' (Also Ω D) (wipe σ vs) (wipeS S vs) wi := (R1.also hD ev wok (by rw [hDl]; exact fun z => nomatch z)).wipe vs
    have R3 := R2.ex ex
    refine ⟨F, Also Ω D, wipeS S vs, wi, _, S1, R3, hit, g1, fun σ' R4 sb => ⟨by rw [sb.wipe]; exact wipe_twice vs, F, Also Ω D, S1, wi, wb, b, R4, g2, fun H3 R5 e5 => ?_⟩⟩
    have nD : F.st ≠ some D := fun z => R1.old D (R1.stΨ z).1 (by
      cases q0 : F.H0 D with
      | none => rfl
      | some o =>
        have := R1.ext D o q0 (fun z2 => R1.dom D (R1.stΨ z2).2 hD)
        rw [hD] at this; cases this)
    have l3 : H3 D = some (.lst accv) := e5 D _ (ex D _ hDl) nD
    have g3 : Evs F.st H1 H3 := (ev.trans ex.evs).trans e5
    have a3 : DvA β (Also Ω D) H3 accv accd := hacc.grow ((Ext.grow ex).trans (R4.grow e5))
    cases b with
    | true =>
      simp only [if_true] at hgo ⊢
      obtain ⟨⟨yd, wy⟩, g4, hgo⟩ := Option.bind_eq_some_iff.mp hgo
      obtain ⟨⟨rest', w2'⟩, g5, hgo⟩ := Option.map_eq_some_iff.mp hgo
      cases hgo
      refine ⟨F, Also Ω D, S1, wb, wy, yd, R5, g4, fun yv H4 R6 e6 hy => ?_⟩
      have l4 : H4 D = some (.lst accv) := e6 D _ l3 nD
      have a4 : DvA β (Also Ω D) H4 accv accd := a3.grow (R5.grow e6)
      have al : accv.length < sizeLine := LB_lt (by
        have q1 := hacc.length
        rw [hrs, List.length_append] at hl
        simp only [List.length_cons] at hl
        omega)
      refine ⟨accv, l4, al, wy, accv ++ [yv], accd ++ [yd], rest', ax (g3.trans e6), wx R6.wok, upd_same, ?_, g5, by rw [hrs, List.append_assoc]; rfl⟩
      refine DvA.grow (Ω := Also Ω D) (H := H4) ⟨fun a h => .inl h, fun a o h n => ?_⟩ (a4.append (.cons hy .nil))
      rw [upd_ne (fun z => n (.inr z))]
      exact h
    | false =>
      simp only [Bool.false_eq_true, if_false] at hgo ⊢
      exact ⟨wb, accv, accd, rest, g3, R5.wok, l3, a3, hgo, hrs⟩
  · have e : i = ds.length := by omega
    subst e
    rw [List.drop_length] at hgo
    cases hgo
    rw [List.append_nil] at hrs
    subst hrs
    exact .inl ⟨wk.stop _ H' _ st (Nat.le_refl _), q D H' hD (R1.evs ev wok) ev ⟨accv, hDl, by rw [hacc.length]; exact hl, hacc⟩⟩
theorem lc_fr {vs : List Nat} {σ : L2.St} {H : Hp} {Q : VK} (h : tFr β (mLc mi p mt me vs) σ H Q) : tLc (tIt β z .top mi) (tPat β z vs p) (tTs β mt) (tEv β .esc me) vs σ H Q := by
  obtain ⟨F, Ω, S, w, w', d, R, hm, q⟩ := h
  unfold mLc at hm
  obtain ⟨⟨ds, w1⟩, h1, hm⟩ := Option.bind_eq_some_iff.mp hm
  obtain ⟨⟨rs, w2⟩, h2, hm⟩ := Option.bind_eq_some_iff.mp hm
  obtain ⟨hl, hm⟩ := ite_some hm
  cases hm
  refine ⟨F, Ω, S, w, w1, ds, R, h1, fun J H1 R1 e1 wk => lc_walk R1 wk h2 hl fun D H' hD R' ev ho => q D H' R' (e1.trans ev) ?_ ho⟩
  cases q0 : H D with
  | none => rfl
  | some o =>
    by_cases hz : F.st = some D
    · exact absurd hD (R1.dom D (R1.stΨ hz).2)
    · rw [e1 D o q0 hz] at hD; cases hD
theorem df_lc (hc : X.calm = true) (hN : X.N.Nodup) (hi : DI β z .top X tg iter mi) (ok : BlkOk X.N X.env.scope scope own)
    (hg : ∀ (s : Shared) (H : Hp) (C : Addr) (cl : List (Str × Addr)) (fp : List Addr), DG β z (own.map (·.2)) (X.blk s H scope (compEnvC scope cl C X.env) fp) tg p) (ht : ∀ (s : Shared) (H : Hp) (C : Addr) (cl : List (Str × Addr)) (fp : List Addr), DTs β (X.blk s H scope (compEnvC scope cl C X.env) fp) ifs mt)
    (he : ∀ (s : Shared) (H : Hp) (C : Addr) (cl : List (Str × Addr)) (fp : List Addr), DE β .esc (X.blk s H scope (compEnvC scope cl C X.env) fp) elt me) (hs : ∀ x, foldedSetIterable iter X.env x = pure x := by intro _; rfl) :
    DF β X (.ListComp elt [⟨tg, iter, ifs, 0⟩] scope pos) (mLc mi p mt me (own.map (·.2))) :=
  pe_imp (pe_lc hc hN hi ok hg ht he hs) fun _ _ _ h => lc_fr h
theorem de_lc (hc : X.calm = true) (hN : X.N.Nodup) (hi : DI β z .top X tg iter mi) (ok : BlkOk X.N X.env.scope scope own)
    (hg : ∀ (s : Shared) (H : Hp) (C : Addr) (cl : List (Str × Addr)) (fp : List Addr), DG β z (own.map (·.2)) (X.blk s H scope (compEnvC scope cl C X.env) fp) tg p) (ht : ∀ (s : Shared) (H : Hp) (C : Addr) (cl : List (Str × Addr)) (fp : List Addr), DTs β (X.blk s H scope (compEnvC scope cl C X.env) fp) ifs mt)
    (he : ∀ (s : Shared) (H : Hp) (C : Addr) (cl : List (Str × Addr)) (fp : List Addr), DE β .esc (X.blk s H scope (compEnvC scope cl C X.env) fp) elt me) (hs : ∀ x, foldedSetIterable iter X.env x = pure x := by intro _; rfl) :
    DE β .esc X (.ListComp elt [⟨tg, iter, ifs, 0⟩] scope pos) (mLc mi p mt me (own.map (·.2))) :=
  de_of_fr (df_lc hc hN hi ok hg ht he hs)
end
end Mini

set_option Elab.async false
set_option linter.all false
set_option maxRecDepth 100000
set_option maxHeartbeats 4000000
/-! Mini F: statements. -/
namespace Mini
open PySem PySem.Spec PyProof.Rows L2

inductive Fl where
  | nx | bk | ct
  | rt (d : PyData)
abbrev MS := SEnv → Drw → Option (Fl × SEnv × Drw)
def EndOk {β : Bool} (F : Fx β) (Ω : AS) (H : Hp) (D : Ends) (S' : SEnv) (w' : Drw) : Fl → Prop
  | .nx => ∀ σ' H' Ω', Rel F H' Ω' σ' S' w' → Grow Ω H Ω' H' → D.nx σ' H'
  | .bk => ∀ σ' H' Ω', Rel F H' Ω' σ' S' w' → Grow Ω H Ω' H' → D.bk σ' H'
  | .ct => ∀ σ' H' Ω', Rel F H' Ω' σ' S' w' → Grow Ω H Ω' H' → D.ct σ' H'
  | .rt d => ∀ v H', Evs F.st F.H0 H' → WOk F.st F.cl F.Ψ H' w' → Dv β F.Ψ H' v d → D.rt v H'
theorem EndOk.mono {β : Bool} {F : Fx β} {Ω Ω1 : AS} {H H1 : Hp} {D : Ends} {S' : SEnv} {w' : Drw} {fl : Fl} (g : Grow Ω H Ω1 H1) (h : EndOk F Ω H D S' w' fl) : EndOk F Ω1 H1 D S' w' fl := by
  cases fl with
  | rt d => exact h
  | nx => exact fun σ' H' Ω' R q => h σ' H' Ω' R (g.trans q)
  | bk => exact fun σ' H' Ω' R q => h σ' H' Ω' R (g.trans q)
  | ct => exact fun σ' H' Ω' R q => h σ' H' Ω' R (g.trans q)
def tSv (β : Bool) (m : MS) : TS := fun D σ H => ∃ (F : Fx β) (Ω : AS) (S : SEnv) (w : Drw) (fl : Fl) (S' : SEnv) (w' : Drw),
  Rel F H Ω σ S w ∧ m S w = some (fl, S', w') ∧ EndOk F Ω H D S' w' fl
def DS (β : Bool) (X : Cx) (st : Stmt) (m : MS) : Prop := PS X st (tSv β m)
def DB (β : Bool) (X : Cx) (sts : List Stmt) (m : MS) : Prop := PSs X sts (tSv β m)
theorem ps_imp {X : Cx} {st : Stmt} {t t' : TS} (h : PS X st t) (k : ∀ D σ H, t' D σ H → t D σ H) : PS X st t' := ⟨fun pins s σ H D I hw => h.run pins s σ H D I (k D σ H hw)⟩
theorem pss_imp {X : Cx} {st : List Stmt} {t t' : TS} (h : PSs X st t) (k : ∀ D σ H, t' D σ H → t D σ H) : PSs X st t' := ⟨fun pins s σ H D I hw => h.run pins s σ H D I (k D σ H hw)⟩

/-! ### the models -/
def sNx : MS := fun S w => some (.nx, S, w)
def sBk : MS := fun S w => some (.bk, S, w)
def sCt : MS := fun S w => some (.ct, S, w)
def sNo : MS := fun _ _ => none
def sSeq (a b : MS) : MS := fun S w => (a S w).bind fun r => match r with
  | (.nx, S1, w1) => b S1 w1
  | (f, S1, w1) => some (f, S1, w1)
def sIf (t : MT) (a b : MS) : MS := fun S w => (t S w).bind fun p => if p.1 = true then a S p.2 else b S p.2
def sRet (e : ME) : MS := fun S w => (e S w).map fun p => (.rt p.1, S, p.2)
def sRetN : MS := fun S w => some (.rt .none, S, w)
def sDrop (e : ME) : MS := fun S w => (e S w).map fun p => (.nx, S, p.2)
def sAsg (e : ME) (p : MG) : MS := fun S w => (e S w).bind fun q => (p q.1 S).map fun S1 => (.nx, S1, q.2)
def sOwn (i : Nat) (e : ME) : MS := fun S w => (e S w).map fun q => (.nx, S.set i (.own q.1), q.2)
def frz (i : Nat) (S : SEnv) : SEnv := match S[i]? with
  | some (.own d) => S.set i (.val d)
  | _ => S
def sFrz (i : Nat) (a : MS) : MS := fun S w => a (frz i S) w
def sPar (i j : Nat) (a : MA) : MS := fun S w => (a S w).bind fun q => match q.1 with
  | [d, e] => some (.nx, (S.set i (.val d)).set j (.val e), q.2)
  | _ => none
def sPar3 (i j l : Nat) (a : MA) : MS := fun S w => (a S w).bind fun q => match q.1 with
  | [d, e, f] => some (.nx, ((S.set i (.val d)).set j (.val e)).set l (.val f), q.2)
  | _ => none
/-- x.append(e), x.extend(e), x[k] = e -/
def sApp (i : Nat) (e : ME) : MS := fun S w => match S[i]? with
  | some (.own (.list ds)) => (e S w).bind fun q => if ds.length + 1 ≤ LB then some (.nx, S.set i (.own (.list (ds ++ [q.1]))), q.2) else none
  | _ => none
def sExt (i : Nat) (e : ME) : MS := fun S w => match S[i]? with
  | some (.own (.list ds)) => (e S w).bind fun q => match q.1 with
    | .list es => if ds.length + es.length ≤ LB then some (.nx, S.set i (.own (.list (ds ++ es))), q.2) else none
    | _ => none
  | _ => none
def sSetIx (i : Nat) (k e : ME) : MS := fun S w => (e S w).bind fun q => match S[i]? with
  | some (.own (.list ds)) => (k S q.2).bind fun r => match r.1 with
    | .int n => (ixN ds.length n).map fun j => (.nx, S.set i (.own (.list (ds.set j q.1))), r.2)
    | _ => none
  | _ => none
/-- name op= e -/
def sAug (g : PyData → PyData → Option PyData) (i : Nat) (e : ME) : MS := fun S w => match S[i]? with
  | some (.val d) => (e S w).bind fun q => (g d q.1).map fun r => (.nx, S.set i (.val r), q.2)
  | _ => none
def forGo (p : MG) (b : MS) : List PyData → SEnv → Drw → Option (Fl × SEnv × Drw)
  | [], S, w => some (.nx, S, w)
  | d :: ds, S, w => (p d S).bind fun S1 => (b S1 w).bind fun r => match r with
    | (.nx, S2, w2) => forGo p b ds S2 w2
    | (.ct, S2, w2) => forGo p b ds S2 w2
    | (.bk, S2, w2) => some (.nx, S2, w2)
    | (.rt d, S2, w2) => some (.rt d, S2, w2)
theorem forGo_cons {p : MG} {b : MS} {d : PyData} {ds : List PyData} {S : SEnv} {w : Drw} : forGo p b (d :: ds) S w = (p d S).bind fun S1 => (b S1 w).bind fun r => match r with
    | (.nx, S2, w2) => forGo p b ds S2 w2
    | (.ct, S2, w2) => forGo p b ds S2 w2
    | (.bk, S2, w2) => some (.nx, S2, w2)
    | (.rt d, S2, w2) => some (.rt d, S2, w2) := rfl
def sFor (mi : MA) (p : MG) (b : MS) : MS := fun S w => (mi S w).bind fun q => forGo p b q.1 S q.2
def whGo (t : MT) (b : MS) : Nat → SEnv → Drw → Option (Fl × SEnv × Drw)
  | 0, _, _ => none
  | n + 1, S, w => (t S w).bind fun q => if q.1 = true then (b S q.2).bind fun r => match r with
    | (.nx, S2, w2) => whGo t b n S2 w2
    | (.ct, S2, w2) => whGo t b n S2 w2
    | (.bk, S2, w2) => some (.nx, S2, w2)
    | (.rt d, S2, w2) => some (.rt d, S2, w2)
    else some (.nx, S, q.2)
theorem whGo_succ {t : MT} {b : MS} {n : Nat} {S : SEnv} {w : Drw} : whGo t b (n + 1) S w = (t S w).bind fun q => if q.1 = true then (b S q.2).bind fun r => match r with
    | (.nx, S2, w2) => whGo t b n S2 w2
    | (.ct, S2, w2) => whGo t b n S2 w2
    | (.bk, S2, w2) => some (.nx, S2, w2)
    | (.rt d, S2, w2) => some (.rt d, S2, w2)
    else some (.nx, S, q.2) := rfl
def sWhile (n : Nat) (t : MT) (b : MS) : MS := fun S w => whGo t b n S w

/-! ### the slots -/
section
variable {β : Bool} {F : Fx β} {H H' : Hp} {Ω : AS} {σ : L2.St} {S : SEnv} {w w' : Drw}
theorem Dx.leave {v : V} {d : PyData} (R : Rel F H Ω σ S w) (h : Dx .top F Ω H v d) : Dv β F.Ψ H v d := by
  rcases h with h | ⟨a, rfl, h0, h⟩
  · exact h.less R.base
  · have n : ¬ F.Ψ a := fun z => R.old a z h0
    cases d with
    | list ds =>
      obtain ⟨vs, h1, h2, h3⟩ := h
      exact .lst h1 n h2 (h3.less R.base)
    | dict ps =>
      rcases h with ⟨kvs, ds, h1, h2, h3, rfl⟩ | ⟨kvs, ds, h1, h2, h3, rfl⟩
      · exact .dK (.inl h1) n h2 (h3.less R.base)
      · exact .dT (.inl h1) n h2 (h3.less R.base)
    | _ => exact False.elim h
theorem Rel.out (R : Rel F H Ω σ S w) : Evs F.st F.H0 H := fun a o h n => R.ext a o h n
theorem Rel.setOwn (R : Rel F H Ω σ S w) {a : Addr} {d : PyData} (i : Nat) (h1 : Ω a) (h2 : F.H0 a = none) (h3 : OwnAt β Ω H a d) (hn : ∀ (j : Nat) (e : PyData), i ≠ j → S[j]? = some (.own e) → σ[j]? ≠ some (some (.ref a))) :
    Rel F H Ω (σ.set i (some (.ref a))) (S.set i (.own d)) w := by
  have at_ : ∀ (j : Nat) (sl : Sl), (S.set i (.own d))[j]? = some sl → (i = j ∧ i < S.length ∧ sl = .own d) ∨ (i ≠ j ∧ S[j]? = some sl) := fun j sl k => by
    by_cases hj : i = j
    · subst hj
      rw [List.getElem?_set] at k
      simp only [if_true] at k
      split at k
      · rename_i hl; cases k; exact .inl ⟨rfl, hl, rfl⟩
      · cases k
    · rw [List.getElem?_set_ne hj] at k
      exact .inr ⟨hj, k⟩
  refine ⟨R.ext, R.base, R.dom, R.old, by rw [List.length_set, List.length_set]; exact R.len, fun j sl k => ?_, fun j1 j2 d1 d2 b k1 k2 s1 s2 => ?_, R.wok⟩
  · rcases at_ j sl k with ⟨rfl, hl, rfl⟩ | ⟨hj, k⟩
    · exact ⟨a, by rw [List.getElem?_set_self (by rw [← R.len]; exact hl)], h1, h2, h3⟩
    · have q := R.slot j sl k
      cases sl with
      | no => trivial
      | val e => obtain ⟨u, q1, q2⟩ := q; exact ⟨u, by rw [List.getElem?_set_ne hj]; exact q1, q2⟩
      | own e => obtain ⟨a, q1, q2, q3, q4⟩ := q; exact ⟨a, by rw [List.getElem?_set_ne hj]; exact q1, q2, q3, q4⟩
      | stt => obtain ⟨a, q1, q2⟩ := q; exact ⟨a, q1, by rw [List.getElem?_set_ne hj]; exact q2⟩
      | raw v => exact (List.getElem?_set_ne hj).trans q
  · rcases at_ j1 _ k1 with ⟨rfl, hl, _⟩ | ⟨hj1, k1⟩
    · rcases at_ j2 _ k2 with ⟨rfl, _, _⟩ | ⟨hj2, k2⟩
      · rfl
      · rw [List.getElem?_set_self (by rw [← R.len]; exact hl)] at s1
        cases s1
        rw [List.getElem?_set_ne hj2] at s2
        exact absurd s2 (hn j2 d2 hj2 k2)
    · rw [List.getElem?_set_ne hj1] at s1
      rcases at_ j2 _ k2 with ⟨rfl, hl, _⟩ | ⟨hj2, k2⟩
      · rw [List.getElem?_set_self (by rw [← R.len]; exact hl)] at s2
        cases s2
        exact absurd s1 (hn j1 d1 hj1 k1)
      · rw [List.getElem?_set_ne hj2] at s2
        exact R.uniq j1 j2 d1 d2 b k1 k2 s1 s2
/-- a new object into a slot -/
theorem Rel.setNew {a : Addr} {d : PyData} (R : Rel F H Ω σ S w) (R' : Rel F H' Ω σ S w') (e : Evs F.st H H') (hn : H a = none) (h : OwnAt β (Also Ω a) H' a d) (i : Nat) : Rel F H' (Also Ω a) (σ.set i (some (.ref a))) (S.set i (.own d)) w' := by
  have h0 : F.H0 a = none := by
    cases q0 : F.H0 a with
    | none => rfl
    | some o =>
      by_cases hz : F.st = some a
      · exact absurd hn (R.dom a (R.stΨ hz).2)
      · rw [R.ext a o q0 hz] at hn; cases hn
  refine (R.also hn e R'.wok (by obtain ⟨o, ho⟩ := h.some; rw [ho]; exact fun z => nomatch z)).setOwn i (.inr rfl) h0 h fun j e _ k s => ?_
  obtain ⟨b, q1, _, _, q4⟩ := R.slot j _ k
  rw [s] at q1
  cases q1
  obtain ⟨o, ho⟩ := q4.some
  rw [hn] at ho; cases ho
theorem Rel.grown {a : Addr} (R : Rel F H Ω σ S w) (e : Evs F.st H H') (hn : H a = none) : Grow Ω H (Also Ω a) H' := ⟨fun b h => h.elim .inl fun z => .inr (by rw [z]; exact hn), R.evo e⟩
/-- an own object is given away: a value from now on -/
theorem Rel.frz (R : Rel F H Ω σ S w) (i : Nat) : ∃ Ω', Rel F H Ω' σ (Mini.frz i S) w ∧ Grow Ω H Ω' H := by
  unfold Mini.frz
  split
  · rename_i d hi
    obtain ⟨a, s1, s2, s3, s4⟩ := R.slot i _ hi
    refine ⟨fun b => Ω b ∧ b ≠ a, ?_, ⟨fun b h => .inl h.1, Evo.refl _ _⟩⟩
    have g : Grow Ω H (fun b => Ω b ∧ b ≠ a) H := ⟨fun b h => .inl h.1, Evo.refl _ _⟩
    have hl : i < S.length := (List.getElem?_eq_some_iff.mp hi).1
    have n : ¬ (Ω a ∧ a ≠ a) := fun z => z.2 rfl
    have own : ∀ {vs ds}, DvA β Ω H vs ds → DvA β (fun b => Ω b ∧ b ≠ a) H vs ds := fun h => h.grow g
    have dv : Dv β (fun b => Ω b ∧ b ≠ a) H (.ref a) d := by
      cases d with
      | list ds =>
        obtain ⟨vs, h1, h2, h3⟩ := s4
        exact .lst h1 n h2 (own h3)
      | dict ps =>
        rcases s4 with ⟨kvs, ds, h1, h2, h3, rfl⟩ | ⟨kvs, ds, h1, h2, h3, rfl⟩
        · exact .dK (.inl h1) n h2 (own h3)
        · exact .dT (.inl h1) n h2 (own h3)
      | _ => exact False.elim s4
    have at_ : ∀ (j : Nat) (sl : Sl), (S.set i (.val d))[j]? = some sl → (i = j ∧ sl = .val d) ∨ (i ≠ j ∧ S[j]? = some sl) := fun j sl k => by
      by_cases hj : i = j
      · subst hj
        rw [List.getElem?_set_self hl] at k
        cases k; exact .inl ⟨rfl, rfl⟩
      · rw [List.getElem?_set_ne hj] at k
        exact .inr ⟨hj, k⟩
    refine ⟨R.ext, fun b h => ⟨R.base b h, fun z => R.old b h (by rw [z]; exact s3)⟩, fun b h => R.dom b h.1, R.old, by rw [List.length_set]; exact R.len, fun j sl k => ?_, fun j1 j2 d1 d2 b k1 k2 => ?_, R.wok⟩
    · rcases at_ j sl k with ⟨rfl, rfl⟩ | ⟨hj, k⟩
      · exact ⟨_, s1, dv⟩
      · have q := R.slot j sl k
        cases sl with
        | no => trivial
        | val e => obtain ⟨u, q1, q2⟩ := q; exact ⟨u, q1, q2.grow g⟩
        | own e =>
          obtain ⟨b, q1, q2, q3, q4⟩ := q
          refine ⟨b, q1, ⟨q2, fun z => ?_⟩, q3, q4.grow g rfl⟩
          rw [z] at q1
          exact hj (R.uniq i j d e a hi k s1 q1)
        | stt => exact q
        | raw v => exact q
    · rcases at_ j1 _ k1 with ⟨_, z⟩ | ⟨_, k1⟩
      · cases z
      · rcases at_ j2 _ k2 with ⟨_, z⟩ | ⟨_, k2⟩
        · cases z
        · exact R.uniq j1 j2 d1 d2 b k1 k2
  · exact ⟨Ω, R, Grow.refl _ _⟩
/-- an own object turned -/
theorem Rel.updOwn (R : Rel F H Ω σ S w) {i : Nat} {a : Addr} {d d' : PyData} {o : HO} (hi : S[i]? = some (.own d)) (hs : σ[i]? = some (some (.ref a))) (ho : OwnAt β Ω (upd H a o) a d') : Rel F (upd H a o) Ω σ (S.set i (.own d')) w ∧ Grow Ω H Ω (upd H a o) := by
  obtain ⟨b, s1, s2, s3, s4⟩ := R.slot i _ hi
  rw [hs] at s1
  cases s1
  have hl : i < S.length := (List.getElem?_eq_some_iff.mp hi).1
  have g : Grow Ω H Ω (upd H a o) := ⟨fun b h => .inl h, fun b u h n => by rw [upd_ne (fun z => n (by rw [z]; exact s2))]; exact h⟩
  have at_ : ∀ (j : Nat) (sl : Sl), (S.set i (.own d'))[j]? = some sl → (i = j ∧ sl = .own d') ∨ (i ≠ j ∧ S[j]? = some sl) := fun j sl k => by
    by_cases hj : i = j
    · subst hj
      rw [List.getElem?_set_self hl] at k
      cases k; exact .inl ⟨rfl, rfl⟩
    · rw [List.getElem?_set_ne hj] at k
      exact .inr ⟨hj, k⟩
  have own_ : ∀ (j : Nat) (e : PyData), (S.set i (Sl.own d'))[j]? = some (Sl.own e) → ∃ e' : PyData, S[j]? = some (Sl.own e') := fun j e k => by
    rcases at_ j _ k with ⟨rfl, _⟩ | ⟨_, k⟩
    · exact ⟨d, hi⟩
    · exact ⟨e, k⟩
  have nP : ∀ b, F.Ψ b → b ≠ a := fun b h z => R.old b h (by rw [z]; exact s3)
  refine ⟨⟨fun b u h n => ?_, R.base, fun b h => ?_, R.old, by rw [List.length_set]; exact R.len, fun j sl k => ?_, fun j1 j2 d1 d2 b k1 k2 => ?_, ?_⟩, g⟩
  · rw [upd_ne (fun z => by rw [z, s3] at h; cases h)]
    exact R.ext b u h n
  · by_cases z : b = a
    · rw [z, upd_same]; exact fun z => nomatch z
    · rw [upd_ne z]; exact R.dom b h
  · rcases at_ j sl k with ⟨rfl, rfl⟩ | ⟨hj, k⟩
    · exact ⟨a, hs, s2, s3, ho⟩
    · have q := R.slot j sl k
      cases sl with
      | no => trivial
      | val e => obtain ⟨u, q1, q2⟩ := q; exact ⟨u, q1, q2.grow g⟩
      | own e =>
        obtain ⟨b, q1, q2, q3, q4⟩ := q
        have hb : b ≠ a := fun z => by
          rw [z] at q1
          exact hj (R.uniq i j d e a hi k hs q1)
        exact ⟨b, q1, q2, q3, q4.grow g (upd_ne hb)⟩
      | stt => exact q
      | raw v => exact q
  · obtain ⟨e1, k1⟩ := own_ j1 _ k1
    obtain ⟨e2, k2⟩ := own_ j2 _ k2
    exact R.uniq j1 j2 e1 e2 b k1 k2
  · cases hst : F.st with
    | none => trivial
    | some s =>
      have k := R.wok
      rw [hst] at k
      obtain ⟨k0, k1, k2, k3, k4, k5⟩ := k
      exact ⟨k0, k1, k2, by rw [upd_ne (nP _ k0)]; exact k3, by rw [upd_ne (nP _ k1)]; exact k4, k5⟩
end

/-! ### the rules -/
section
variable {β : Bool} {X : Cx} {e a b c tg iter : Expr} {es : List Expr} {st : Stmt} {sts body : List Stmt} {pos p1 p2 p3 px apos cpos : Pos} {r : Strg} {z : Bool} {m me : ME} {mr : MA} {mt : MT} {ms ma mb : MS} {p : MG} {x y : Str} {i j : Nat}
theorem db_nil : DB β X [] sNx := pss_imp pss_nil fun D σ H ⟨F, Ω, S, w, fl, S', w', R, hm, q⟩ => by
  cases hm
  exact q σ H Ω R (Grow.refl _ _)
theorem db_cons (h1 : DS β X st ma) (h2 : DB β X sts mb) : DB β X (st :: sts) (sSeq ma mb) := pss_imp (pss_cons h1 h2) fun D σ H ⟨F, Ω, S, w, fl, S', w', R, hm, q⟩ => by
  unfold sSeq at hm
  obtain ⟨⟨f1, S1, w1⟩, h3, hm⟩ := Option.bind_eq_some_iff.mp hm
  cases f1 with
  | nx => exact ⟨F, Ω, S, w, .nx, S1, w1, R, h3, fun σ' H' Ω' R' g => ⟨F, Ω', S1, w1, fl, S', w', R', hm, q.mono g⟩⟩
  | bk => cases hm; exact ⟨F, Ω, S, w, .bk, _, _, R, h3, q⟩
  | ct => cases hm; exact ⟨F, Ω, S, w, .ct, _, _, R, h3, q⟩
  | rt d => cases hm; exact ⟨F, Ω, S, w, .rt d, _, _, R, h3, q⟩
theorem db_one (h1 : DS β X st ma) : DB β X [st] ma := pss_one h1
theorem db_no : DB β X sts sNo := ⟨fun pins s σ H D I ⟨F, Ω, S, w, fl, S', w', R, hm, q⟩ => by cases hm⟩
theorem ds_no : DS β X st sNo := ⟨fun pins s σ H D I ⟨F, Ω, S, w, fl, S', w', R, hm, q⟩ => by cases hm⟩
theorem ds_pass : DS β X (.Pass pos) sNx := ps_imp ps_pass fun D σ H ⟨F, Ω, S, w, fl, S', w', R, hm, q⟩ => by
  cases hm
  exact q σ H Ω R (Grow.refl _ _)
theorem ds_break : DS β X (.Break pos) sBk := ps_imp ps_break fun D σ H ⟨F, Ω, S, w, fl, S', w', R, hm, q⟩ => by
  cases hm
  exact q σ H Ω R (Grow.refl _ _)
theorem ds_cont : DS β X (.Continue pos) sCt := ps_imp ps_continue fun D σ H ⟨F, Ω, S, w, fl, S', w', R, hm, q⟩ => by
  cases hm
  exact q σ H Ω R (Grow.refl _ _)
theorem ds_if (hc : DT β X c mt) (ha : DB β X sts ma) (hb : DB β X body mb) : DS β X (.If c sts body pos) (sIf mt ma mb) := ps_imp (ps_if hc ha hb) fun D σ H ⟨F, Ω, S, w, fl, S', w', R, hm, q⟩ => by
  unfold sIf at hm
  obtain ⟨⟨k, w1⟩, h1, hm⟩ := Option.bind_eq_some_iff.mp hm
  refine ⟨F, Ω, S, w, w1, k, R, h1, fun H1 R1 e1 => ?_⟩
  cases k with
  | true => exact iteT ⟨F, Ω, S, w1, fl, S', w', R1, hm, q.mono (R.grow e1)⟩
  | false => exact iteF ⟨F, Ω, S, w1, fl, S', w', R1, hm, q.mono (R.grow e1)⟩
theorem ds_ret (h : DE β .top X e me) : DS β X (.Return (some e) pos) (sRet me) := ps_imp (ps_ret h) fun D σ H ⟨F, Ω, S, w, fl, S', w', R, hm, q⟩ => by
  unfold sRet at hm
  obtain ⟨⟨d, w1⟩, h1, hm⟩ := Option.map_eq_some_iff.mp hm
  cases hm
  exact ⟨F, Ω, S, w, _, d, R, h1, fun v H1 R1 e1 hv => q v H1 R1.out R1.wok (hv.leave R1)⟩
theorem ds_retN : DS β X (.Return none pos) sRetN := ps_imp ps_retN fun D σ H ⟨F, Ω, S, w, fl, S', w', R, hm, q⟩ => by
  cases hm
  exact q .non H R.out R.wok .non
theorem ds_drop (h : DE β r X e me) (hs : swapsWith e none pos.line X.env = pure false := by rfl) : DS β X (.Expr e pos) (sDrop me) := ps_imp (ps_expr h hs) fun D σ H ⟨F, Ω, S, w, fl, S', w', R, hm, q⟩ => by
  unfold sDrop at hm
  obtain ⟨⟨d, w1⟩, h1, hm⟩ := Option.map_eq_some_iff.mp hm
  cases hm
  exact ⟨F, Ω, S, w, _, d, R, h1, fun v H1 R1 e1 hv => q σ H1 Ω R1 (R.grow e1)⟩
theorem asg_imp {us : List Nat} {D : Ends} {σ : L2.St} {H : Hp} (h : tSv β (sAsg me p) D σ H) : tAsg (tEv β .esc me) (tPat β false us p) D σ H := by
  obtain ⟨F, Ω, S, w, fl, S', w', R, hm, q⟩ := h
  unfold sAsg at hm
  obtain ⟨⟨d, w1⟩, h1, hm⟩ := Option.bind_eq_some_iff.mp hm
  obtain ⟨S1, h2, hm⟩ := Option.map_eq_some_iff.mp hm
  cases hm
  exact ⟨F, Ω, S, w, _, d, R, h1, fun v H1 R1 e1 hv => ⟨F, Ω, S, _, d, _, R1, hv, h2, fun σ' R2 sb => q σ' H1 Ω R2 (R.grow e1)⟩⟩
theorem ds_asg {us : List Nat} (he : DE β .esc X e me) (hg : DG β false us X tg p) (hs : swapsWithSole [tg] e pos.line X.env = pure false := by rfl) (hw : swappedStores [tg] e X.env = pure none := by rfl)
    (h1 : (assignEach [tg] X.env).map (·.2) = [assign tg X.env] := by rfl) : DS β X (.Assign [tg] e pos) (sAsg me p) := ps_imp (ps_asg he hg hs hw h1) fun _ _ _ h => asg_imp h
/-- name = [.. for ..] on one line -/
theorem ds_lc {elt : Expr} {ifs : List Expr} {scope : Scope} {own : List (Str × Nat)} {py spos : Pos} {mi : MA} {m1 : MT} {zz : Bool} (hc : X.calm = true) (hN : X.N.Nodup) (hy : X.N[i]? = some y) (hyl : X.env.scope.names.lookup y = some .local)
    (hsw : swapsWith (.ListComp elt [⟨tg, iter, ifs, 0⟩] scope pos) (some (.Name y py)) spos.line X.env = pure true) (hi : DI β zz .top X tg iter mi) (ok : BlkOk X.N X.env.scope scope own)
    (hg : ∀ (s : Shared) (H : Hp) (C : Addr) (cl : List (Str × Addr)) (fp : List Addr), DG β zz (own.map (·.2)) (X.blk s H scope (compEnvC scope cl C X.env) fp) tg p) (ht : ∀ (s : Shared) (H : Hp) (C : Addr) (cl : List (Str × Addr)) (fp : List Addr), DTs β (X.blk s H scope (compEnvC scope cl C X.env) fp) ifs m1)
    (he : ∀ (s : Shared) (H : Hp) (C : Addr) (cl : List (Str × Addr)) (fp : List Addr), DE β .esc (X.blk s H scope (compEnvC scope cl C X.env) fp) elt me) (hs : ∀ x, foldedSetIterable iter X.env x = pure x := by intro _; rfl) :
    DS β X (.Assign [.Name y py] (.ListComp elt [⟨tg, iter, ifs, 0⟩] scope pos) spos) (sAsg (mLc mi p m1 me (own.map (·.2))) (pName i)) := ps_imp (ps_setLc hc hN hy hyl hsw hi ok hg ht he hs) fun D σ H ⟨F, Ω, S, w, fl, S', w', R, hm, q⟩ => by
  unfold sAsg at hm
  obtain ⟨⟨d, w1⟩, h1, hm⟩ := Option.bind_eq_some_iff.mp hm
  obtain ⟨S1, h2, hm⟩ := Option.map_eq_some_iff.mp hm
  cases hm
  cases h2
  refine lc_fr ⟨F, Ω, S, w, _, d, R, h1, fun a H1 R1 e1 hn ho => ?_⟩
  exact q _ H1 Ω (R1.setVal i (ho.dv fun z => R.dom a z hn)) (R.grow e1)
theorem ds_lcO {elt : Expr} {ifs : List Expr} {scope : Scope} {own : List (Str × Nat)} {py spos : Pos} {mi : MA} {m1 : MT} {zz : Bool} (hc : X.calm = true) (hN : X.N.Nodup) (hy : X.N[i]? = some y) (hyl : X.env.scope.names.lookup y = some .local)
    (hsw : swapsWith (.ListComp elt [⟨tg, iter, ifs, 0⟩] scope pos) (some (.Name y py)) spos.line X.env = pure true) (hi : DI β zz .top X tg iter mi) (ok : BlkOk X.N X.env.scope scope own)
    (hg : ∀ (s : Shared) (H : Hp) (C : Addr) (cl : List (Str × Addr)) (fp : List Addr), DG β zz (own.map (·.2)) (X.blk s H scope (compEnvC scope cl C X.env) fp) tg p) (ht : ∀ (s : Shared) (H : Hp) (C : Addr) (cl : List (Str × Addr)) (fp : List Addr), DTs β (X.blk s H scope (compEnvC scope cl C X.env) fp) ifs m1)
    (he : ∀ (s : Shared) (H : Hp) (C : Addr) (cl : List (Str × Addr)) (fp : List Addr), DE β .esc (X.blk s H scope (compEnvC scope cl C X.env) fp) elt me) (hs : ∀ x, foldedSetIterable iter X.env x = pure x := by intro _; rfl) :
    DS β X (.Assign [.Name y py] (.ListComp elt [⟨tg, iter, ifs, 0⟩] scope pos) spos) (sOwn i (mLc mi p m1 me (own.map (·.2)))) := ps_imp (ps_setLc hc hN hy hyl hsw hi ok hg ht he hs) fun D σ H ⟨F, Ω, S, w, fl, S', w', R, hm, q⟩ => by
  unfold sOwn at hm
  obtain ⟨⟨d, w1⟩, h1, hm⟩ := Option.map_eq_some_iff.mp hm
  cases hm
  refine lc_fr ⟨F, Ω, S, w, _, d, R, h1, fun a H1 R1 e1 hn ho => ?_⟩
  exact q _ H1 _ (R.setNew R1 e1 hn ho i) (R.grown e1 hn)
/-- name = a new object of the def's own -/
theorem ds_own (hN : X.N.Nodup) (hi : X.N[i]? = some x) (hx : Loc X.env.scope x) (he : DF β X e me) (hs : swapsWith e (some (.Name x px)) pos.line X.env = pure false := by rfl) (hf : X.fn x = true ∨ X.env.scope.names.lookup x = some .local := by first | exact .inl rfl | exact .inr rfl | assumption) :
    DS β X (.Assign [.Name x px] e pos) (sOwn i me) := ps_imp (ps_set hN hi hx he hs hf) fun D σ H ⟨F, Ω, S, w, fl, S', w', R, hm, q⟩ => by
  unfold sOwn at hm
  obtain ⟨⟨d, w1⟩, h1, hm⟩ := Option.map_eq_some_iff.mp hm
  cases hm
  exact ⟨F, Ω, S, w, _, d, R, h1, fun a H1 R1 e1 hn ho => q _ H1 _ (R.setNew R1 e1 hn ho i) (R.grown e1 hn)⟩
theorem ds_frz (h : DS β X st ms) (i : Nat) : DS β X st (sFrz i ms) := ps_imp h fun D σ H ⟨F, Ω, S, w, fl, S', w', R, hm, q⟩ => by
  obtain ⟨Ω', R', g⟩ := R.frz i
  exact ⟨F, Ω', _, w, fl, S', w', R', hm, q.mono g⟩
theorem ds_par {j : Nat} {kt k2 : Nat} (hc : X.calm = true) (hN : X.N.Nodup) (hi : X.N[i]? = some x) (hj : X.N[j]? = some y) (hij : i ≠ j)
    (hx : X.env.scope.names.lookup x = some .local) (hy : X.env.scope.names.lookup y = some .local) (ha : DA β .esc X [a, b] mr)
    (hw : swappedStores [.Tuple [.Name x px, .Name y p1] kt p2] (.Tuple [a, b] k2 p3) X.env = pure (some [x, y]))
    (hs : swapsWithSole [.Tuple [.Name x px, .Name y p1] kt p2] (.Tuple [a, b] k2 p3) pos.line X.env = pure false := by rfl) :
    DS β X (.Assign [.Tuple [.Name x px, .Name y p1] kt p2] (.Tuple [a, b] k2 p3) pos) (sPar i j mr) := ps_imp (ps_par hc hN hi hj hij hx hy ha hw hs) fun D σ H ⟨F, Ω, S, w, fl, S', w', R, hm, q⟩ => by
  unfold sPar at hm
  obtain ⟨⟨ds, w1⟩, h1, hm⟩ := Option.bind_eq_some_iff.mp hm
  match ds, h1, hm with
  | [d, e], h1, hm =>
    cases hm
    refine ⟨F, Ω, S, w, _, [d, e], R, h1, fun vs H1 R1 e1 hv => ?_⟩
    obtain ⟨v, u, rfl, q1, q2⟩ := hv.two
    exact ⟨v, u, rfl, q _ H1 Ω ((R1.setVal i q1).setVal j q2) (R.grow e1)⟩
theorem ds_par3 {j l : Nat} {v : Str} {p4 : Pos} {kt k2 : Nat} (hc : X.calm = true) (hN : X.N.Nodup) (hi : X.N[i]? = some x) (hj : X.N[j]? = some y) (hl : X.N[l]? = some v) (hij : i ≠ j) (hil : i ≠ l) (hjl : j ≠ l)
    (hx : X.env.scope.names.lookup x = some .local) (hy : X.env.scope.names.lookup y = some .local) (hz : X.env.scope.names.lookup v = some .local) (ha : DA β .esc X [a, b, c] mr)
    (hw : swappedStores [.Tuple [.Name x px, .Name y p1, .Name v p2] kt p3] (.Tuple [a, b, c] k2 p4) X.env = pure (some [x, y, v]))
    (hs : swapsWithSole [.Tuple [.Name x px, .Name y p1, .Name v p2] kt p3] (.Tuple [a, b, c] k2 p4) pos.line X.env = pure false := by rfl) :
    DS β X (.Assign [.Tuple [.Name x px, .Name y p1, .Name v p2] kt p3] (.Tuple [a, b, c] k2 p4) pos) (sPar3 i j l mr) := ps_imp (ps_par3 hc hN hi hj hl hij hil hjl hx hy hz ha hw hs) fun D σ H ⟨F, Ω, S, w, fl, S', w', R, hm, q⟩ => by
  unfold sPar3 at hm
  obtain ⟨⟨ds, w1⟩, h1, hm⟩ := Option.bind_eq_some_iff.mp hm
  match ds, h1, hm with
  | [d, e, f], h1, hm =>
    cases hm
    refine ⟨F, Ω, S, w, _, [d, e, f], R, h1, fun vs H1 R1 e1 hv => ?_⟩
    cases hv with
    | cons q0 t =>
      obtain ⟨v, u, rfl, q1, q2⟩ := t.two
      exact ⟨_, v, u, rfl, q _ H1 Ω (((R1.setVal i q0).setVal j q1).setVal l q2) (R.grow e1)⟩
/-- name op= e -/
theorem ds_aug {op : Operator} {rl : R2} {g : PyData → PyData → Option PyData} (ho : OpR X (inplaceOp op) rl) (hg : Op2 β .esc r rl g) (hN : X.N.Nodup) (hi : X.N[i]? = some x) (hx : Loc X.env.scope x) (he : DE β r X e me)
    (hf : X.fn x = true ∨ X.env.scope.names.lookup x = some .local := by first | exact .inl rfl | exact .inr rfl | assumption) : DS β X (.AugAssign (.Name x px) op e pos) (sAug g i me) := ps_imp (ps_aug hN hi hx he ho hf) fun D σ H ⟨F, Ω, S, w, fl, S', w', R, hm, q⟩ => by
  unfold sAug at hm
  split at hm
  · rename_i d hs
    obtain ⟨⟨d2, w1⟩, h1, hm⟩ := Option.bind_eq_some_iff.mp hm
    obtain ⟨d3, h2, hm⟩ := Option.map_eq_some_iff.mp hm
    cases hm
    obtain ⟨v, s1, s2⟩ := R.slot i _ hs
    refine ⟨v, s1, F, Ω, S, w, _, d2, R, h1, fun u H1 R1 e1 hu => ?_⟩
    refine hg F H1 Ω σ S _ v u d d2 d3 _ R1 (Dv.grow (R.grow e1) s2) hu h2 fun t H2 e2 ht => ?_
    exact q _ H2 Ω ((R1.ex e2).setVal i ht) ((R.grow e1).trans (Ext.grow e2))
  · cases hm
theorem ds_augAdd (hN : X.N.Nodup) (hi : X.N[i]? = some x) (hx : Loc X.env.scope x) (he : DE β r X e me)
    (hf : X.fn x = true ∨ X.env.scope.names.lookup x = some .local := by first | exact .inl rfl | exact .inr rfl | assumption) : DS β X (.AugAssign (.Name x px) .Add e pos) (sAug (fun a b => match a, b with | .int i, .int j => some (.int (i + j)) | _, _ => none) i me) :=
  ds_aug (rl := rI0 fun i j => .int (i + j)) (fun pins s σ H x y v u Q I rx ry h => by
    obtain ⟨i, j, e1, e2, q⟩ := h
    exact ip_add pins s σ H x y v u Q I rx ry ⟨i, j, e1, e2, q⟩) (op_ii (gd := fun i j => .int (i + j)) (fun a b d h => by
  cases a <;> first | (cases h; done) | (cases b <;> first | (cases h; exact ⟨_, _, rfl, rfl, rfl⟩) | cases h)) fun _ _ _ _ _ => .int _) hN hi hx he hf
theorem ds_augSub (hN : X.N.Nodup) (hi : X.N[i]? = some x) (hx : Loc X.env.scope x) (he : DE β r X e me)
    (hf : X.fn x = true ∨ X.env.scope.names.lookup x = some .local := by first | exact .inl rfl | exact .inr rfl | assumption) : DS β X (.AugAssign (.Name x px) .Sub e pos) (sAug dSub i me) :=
  ds_aug (rl := rI0 fun i j => .int (i - j)) (fun pins s σ H x y v u Q I rx ry h => by
    obtain ⟨i, j, e1, e2, q⟩ := h
    exact ip_sub pins s σ H x y v u Q I rx ry ⟨i, j, e1, e2, q⟩) op_sub' hN hi hx he hf
def dMulI : PyData → PyData → Option PyData
  | .int i, .int j => if mulOk i j then some (.int (i * j)) else none
  | _, _ => none
theorem ds_augMul (hN : X.N.Nodup) (hi : X.N[i]? = some x) (hx : Loc X.env.scope x) (he : DE β r X e me)
    (hf : X.fn x = true ∨ X.env.scope.names.lookup x = some .local := by first | exact .inl rfl | exact .inr rfl | assumption) : DS β X (.AugAssign (.Name x px) .Mult e pos) (sAug dMulI i me) :=
  ds_aug iop_mulW (op_iic (gd := fun i j => .int (i * j)) (fun a b d h => by
  cases a <;> first | (cases h; done) | (cases b <;> first | (obtain ⟨hc, e⟩ := ite_some h; exact ⟨_, _, rfl, rfl, hc, e.symm⟩) | cases h)) fun _ _ _ _ _ => .int _) hN hi hx he hf

/-! own lists turned -/
theorem upd_own {F : Fx β} {Ω : AS} {H : Hp} {a : Addr} {vs : List V} {ds : List PyData} (ha : Ω a) (hl : ds.length ≤ LB) (h : DvA β Ω H vs ds) : OwnAt β Ω (upd H a (.lst vs)) a (.list ds) :=
  ⟨vs, upd_same, by rw [h.length]; exact hl, h.grow ⟨fun b h => .inl h, fun b u k n => by rw [upd_ne (fun z => n (by rw [z]; exact ha))]; exact k⟩⟩
theorem ds_append (hv : PE X (.Name x px) (tVar i)) (he : DE β .esc X e me) (hs : swapsWith (.Call (.Attribute (.Name x px) "append" apos) [e] [] cpos) none pos.line X.env = pure false := by rfl)
    (hbase : attributeBase (.Name x px) "append" X.env (eval (.Name x px) X.env) = eval (.Name x px) X.env := by rfl)
    (hfew : ((backTo cpos (starEach [e] X.env)).all (fun x => !x.1) && (backToKw cpos (keywordEach [] X.env)).all (fun x => x.1.isSome) && decide ([e].length + ([] : List Keyword).length + (if ([] : List Keyword).isEmpty then 0 else 1) < 30)) = true := by rfl)
    (hline : (apos.endLine == cpos.line) = true := by rfl) (hst : starEach [e] X.env = (false, eval e X.env) :: starEach [] X.env := by rfl) :
    DS β X (.Expr (.Call (.Attribute (.Name x px) "append" apos) [e] [] cpos) pos) (sApp i me) :=
  ps_imp (ps_expr (pe_bm PySem.F.plainAttrs_list PySem.F.slot_list_append PySem.F.type_list_append mt_append hv (da_cons he da_nil hst) hbase hfew hline hst (by rfl)) hs) fun D σ H ⟨F, Ω, S, w, fl, S', w', R, hm, q⟩ => by
  unfold sApp at hm
  split at hm
  · rename_i ds hi
    obtain ⟨⟨d, w1⟩, h1, hm⟩ := Option.bind_eq_some_iff.mp hm
    obtain ⟨hl, hm⟩ := ite_some hm
    cases hm
    obtain ⟨a, s1, s2, s3, vs, s4, _⟩ := R.slot i _ hi
    refine ⟨_, s1, .inl ⟨rfl, vs, .of s4⟩, F, Ω, S, w, w1, [d], R, by unfold mCons mNil; rw [h1]; rfl, fun us H1 R1 e1 hu => ?_⟩
    obtain ⟨u, rfl, hu1⟩ := hu.one
    obtain ⟨a', t1, t2, t3, vs1, t4, t5, t6⟩ := R1.slot i _ hi
    rw [s1] at t1
    cases t1
    refine ⟨a, vs1, u, rfl, rfl, t4, LB_lt (by rw [t6.length]; omega), ?_⟩
    obtain ⟨R2, g2⟩ := R1.updOwn (o := .lst (vs1 ++ [u])) hi s1 (upd_own (F := F) t2 (by rw [List.length_append]; exact hl) (t6.append (.cons hu1 .nil)))
    exact q σ _ Ω R2 ((R.grow e1).trans g2)
  · cases hm
theorem ds_extend (hv : PE X (.Name x px) (tVar i)) (he : DE β .top X e me) (hs : swapsWith (.Call (.Attribute (.Name x px) "extend" apos) [e] [] cpos) none pos.line X.env = pure false := by rfl)
    (hbase : attributeBase (.Name x px) "extend" X.env (eval (.Name x px) X.env) = eval (.Name x px) X.env := by rfl)
    (hfew : ((backTo cpos (starEach [e] X.env)).all (fun x => !x.1) && (backToKw cpos (keywordEach [] X.env)).all (fun x => x.1.isSome) && decide ([e].length + ([] : List Keyword).length + (if ([] : List Keyword).isEmpty then 0 else 1) < 30)) = true := by rfl)
    (hline : (apos.endLine == cpos.line) = true := by rfl) (hst : starEach [e] X.env = (false, eval e X.env) :: starEach [] X.env := by rfl) :
    DS β X (.Expr (.Call (.Attribute (.Name x px) "extend" apos) [e] [] cpos) pos) (sExt i me) :=
  ps_imp (ps_expr (pe_bm PySem.F.plainAttrs_list PySem.F.slot_list_extend PySem.F.type_list_extend mt_extend hv (da_cons he da_nil hst) hbase hfew hline hst (by rfl)) hs) fun D σ H ⟨F, Ω, S, w, fl, S', w', R, hm, q⟩ => by
  unfold sExt at hm
  split at hm
  · rename_i ds hi
    obtain ⟨⟨d, w1⟩, h1, hm⟩ := Option.bind_eq_some_iff.mp hm
    cases d with
    | list es =>
      obtain ⟨hl, hm⟩ := ite_some hm
      cases hm
      obtain ⟨a, s1, s2, s3, vs, s4, _⟩ := R.slot i _ hi
      refine ⟨_, s1, .inl ⟨rfl, vs, .of s4⟩, F, Ω, S, w, w1, [.list es], R, by unfold mCons mNil; rw [h1]; rfl, fun us H1 R1 e1 hu => ?_⟩
      obtain ⟨u, rfl, hu1⟩ := hu.one
      obtain ⟨a', t1, t2, t3, vs1, t4, t5, t6⟩ := R1.slot i _ hi
      obtain ⟨b, us, rfl, u1, u2, u3⟩ := hu1.lst_inv
      rw [s1] at t1
      cases t1
      refine ⟨a, b, vs1, us, rfl, rfl, t4, u1, LB_line (by rw [t6.length, u3.length]; exact hl), ?_⟩
      obtain ⟨R2, g2⟩ := R1.updOwn (o := .lst (vs1 ++ us)) hi s1 (upd_own (F := F) t2 (by rw [List.length_append]; exact hl) (t6.append u3))
      exact q σ _ Ω R2 ((R.grow e1).trans g2)
    | _ => cases hm
  · cases hm
theorem ds_setIx {k : Expr} {mk : ME} (hv : PE X (.Name x px) (tVar i)) (hk : DE β r X k mk) (he : DE β .esc X e me)
    (ha : ∀ v, assign (.Subscript (.Name x px) k p1) X.env v = (do
      let ov ← holding [v] (eval (.Name x px) X.env)
      let iv ← holding [v, ov] (eval k X.env)
      standAt p1
      holding [v, ov, iv] (setItem ov iv v)
      release [v, ov, iv] []) := by intro _; rfl) (hs : swapsWithSole [.Subscript (.Name x px) k p1] e pos.line X.env = pure false := by rfl) (hw : swappedStores [.Subscript (.Name x px) k p1] e X.env = pure none := by rfl)
    (h1 : (assignEach [.Subscript (.Name x px) k p1] X.env).map (·.2) = [assign (.Subscript (.Name x px) k p1) X.env] := by rfl) : DS β X (.Assign [.Subscript (.Name x px) k p1] e pos) (sSetIx i mk me) :=
  ps_imp (ps_asg he (pg_sub hv hk set_list ha) hs hw h1) fun D σ H ⟨F, Ω, S, w, fl, S', w', R, hm, q⟩ => by
  unfold sSetIx at hm
  obtain ⟨⟨d, w1⟩, h1, hm⟩ := Option.bind_eq_some_iff.mp hm
  refine ⟨F, Ω, S, w, w1, d, R, h1, fun u H1 R1 e1 hu => ?_⟩
  dsimp only at hm
  split at hm
  · rename_i ds hi
    obtain ⟨⟨n, w2⟩, h2, hm⟩ := Option.bind_eq_some_iff.mp hm
    cases n with
    | int n =>
      obtain ⟨jj, h3, hm⟩ := Option.map_eq_some_iff.mp hm
      cases hm
      obtain ⟨a, s1, s2, s3, vs, s4, _⟩ := R1.slot i _ hi
      refine ⟨_, s1, F, Ω, S, w1, _, .int n, R1, h2, fun kv H2 R2 e2 hk2 => ?_⟩
      obtain ⟨a', t1, t2, t3, vs1, t4, t5, t6⟩ := R2.slot i _ hi
      rw [s1] at t1
      cases t1
      refine ⟨a, vs1, n, jj, rfl, hk2.int_inv, t4, by rw [t6.length]; exact h3, ?_⟩
      have hu2 : Dv β Ω H2 u d := Dv.grow (R1.grow e2) hu
      obtain ⟨R3, g3⟩ := R2.updOwn (o := .lst (vs1.set jj u)) hi s1 (upd_own (F := F) t2 (by rw [List.length_set, ← t6.length]; exact t5) (t6.set hu2 jj))
      exact q σ _ Ω R3 (((R.grow e1).trans (R1.grow e2)).trans g3)
    | _ => cases hm
  · cases hm

/-! loops -/
theorem for_walk {us : List Nat} {F : Fx β} {Ω : AS} {σ : L2.St} {S S' : SEnv} {w1 w' : Drw} {fl : Fl} {ds : List PyData} {J : It} {H1 : Hp} {D : Ends} (R1 : Rel F H1 Ω σ S w1) (wk : Walk z .esc F Ω J H1 ds) (hm : forGo p mb ds S w1 = some (fl, S', w')) (q : EndOk F Ω H1 D S' w' fl) :
    ∃ W : Nat → Nat → L2.St → Hp → Prop, (∃ m, W 0 m σ H1) ∧ ∀ i m σ H, W i m σ H →
      (J.stop i H ∧ D.nx σ H) ∨ (J.go i H ∧ ∃ N : L2.St → Hp → Prop, (∀ σ' H', N σ' H' → ∃ m', m' < m ∧ W (i + 1) m' σ' H') ∧ ∀ x H', J.yld i H x H' → tPat β z us p x σ H' fun σ2 H2 => tSv β mb { D with nx := N, ct := N, bk := D.nx } σ2 H2) := by
  let Pv : Nat → L2.St → Hp → Prop := fun i σ' H' => ∃ Ωi Si wi, Rel F H' Ωi σ' Si wi ∧ Grow Ω H1 Ωi H' ∧ forGo p mb (ds.drop i) Si wi = some (fl, S', w')
  refine ⟨fun i m σ' H' => m = ds.length - i ∧ i ≤ ds.length ∧ Pv i σ' H', ⟨ds.length, by simp, Nat.zero_le _, Ω, S, w1, R1, Grow.refl _ _, hm⟩, ?_⟩
  rintro i m σi Hi ⟨rfl, hi, Ωi, Si, wi, Ri, gi, hgo⟩
  have stay : Stay .esc F Ω H1 Ωi Hi := ⟨gi, fun z => nomatch z⟩
  by_cases hlt : i < ds.length
  · refine .inr ⟨wk.go _ _ i stay hlt, Pv (i + 1), fun σ' H' p' => ⟨ds.length - (i + 1), by omega, rfl, hlt, p'⟩, fun x H2 y => ?_⟩
    rw [List.drop_eq_getElem_cons hlt] at hgo
    unfold forGo at hgo
    obtain ⟨S1, g1, hgo⟩ := Option.bind_eq_some_iff.mp hgo
    obtain ⟨⟨f2, S2, w2⟩, g2, hgo⟩ := Option.bind_eq_some_iff.mp hgo
    obtain ⟨ex, hit⟩ := wk.yld _ _ i x H2 _ stay (List.getElem?_eq_getElem hlt) y
    refine ⟨F, Ωi, Si, wi, _, S1, Ri.ex ex, hit, g1, fun σ' R4 sb => ⟨F, Ωi, S1, wi, f2, S2, w2, R4, g2, ?_⟩⟩
    have g3 : Grow Ω H1 Ωi H2 := gi.trans (Ext.grow ex)
    cases f2 with
    | nx => exact fun σ5 H5 Ω5 R5 g5 => ⟨Ω5, S2, w2, R5, g3.trans g5, hgo⟩
    | ct => exact fun σ5 H5 Ω5 R5 g5 => ⟨Ω5, S2, w2, R5, g3.trans g5, hgo⟩
    | bk =>
      cases hgo
      exact fun σ5 H5 Ω5 R5 g5 => q σ5 H5 Ω5 R5 (g3.trans g5)
    | rt d =>
      cases hgo
      exact q
  · have e : i = ds.length := by omega
    subst e
    rw [List.drop_length] at hgo
    cases hgo
    exact .inl ⟨wk.stop _ _ _ stay (Nat.le_refl _), q σi Hi Ωi Ri gi⟩
theorem ds_for {us : List Nat} {mi : MA} (hp : PassesOwn (model X.prog X.w) X.A X.env X.xe) (hc : X.calm = true) (hi : DI β z .esc X tg iter mi) (hg : DG β z us X tg p) (hb : DB β X body mb)
    (hs : ∀ x, foldedSetIterable iter X.env x = pure x := by intro _; rfl) : DS β X (.For tg iter body [] pos) (sFor mi p mb) := ps_imp (ps_for hp hc hi hg hb hs) fun D σ H ⟨F, Ω, S, w, fl, S', w', R, hm, q⟩ => by
  unfold sFor at hm
  obtain ⟨⟨ds, w1⟩, h1, hm⟩ := Option.bind_eq_some_iff.mp hm
  exact ⟨F, Ω, S, w, w1, ds, R, h1, fun J H1 R1 e1 wk => for_walk R1 wk hm (q.mono (R.grow e1))⟩
theorem ds_while (n : Nat) (hp : PassesOwn (model X.prog X.w) X.A X.env X.xe) (hc : DT β X c mt) (hb : DB β X body mb) : DS β X (.While c body [] pos) (sWhile n mt mb) := ps_imp (ps_while hp hc hb) fun D σ H ⟨F, Ω, S, w, fl, S', w', R, hm, q⟩ => by
  unfold sWhile at hm
  let Pv : Nat → L2.St → Hp → Prop := fun k σ' H' => ∃ Ωi Si wi, Rel F H' Ωi σ' Si wi ∧ Grow Ω H Ωi H' ∧ whGo mt mb k Si wi = some (fl, S', w')
  refine ⟨Pv, ⟨n, Ω, S, w, R, Grow.refl _ _, hm⟩, ?_⟩
  rintro k σi Hi ⟨Ωi, Si, wi, Ri, gi, hgo⟩
  cases k with
  | zero => cases hgo
  | succ k =>
    unfold whGo at hgo
    obtain ⟨⟨b, w1⟩, h1, hgo⟩ := Option.bind_eq_some_iff.mp hgo
    refine ⟨F, Ωi, Si, wi, w1, b, Ri, h1, fun H1 R1 e1 => ?_⟩
    have g1 : Grow Ω H Ωi H1 := gi.trans (Ri.grow e1)
    cases b with
    | true =>
      simp only [if_true] at hgo ⊢
      obtain ⟨⟨f2, S2, w2⟩, g2, hgo⟩ := Option.bind_eq_some_iff.mp hgo
      refine ⟨Pv k, fun σ' H' p' => ⟨k, Nat.lt_succ_self k, p'⟩, F, Ωi, Si, w1, f2, S2, w2, R1, g2, ?_⟩
      cases f2 with
      | nx => exact fun σ5 H5 Ω5 R5 g5 => ⟨Ω5, S2, w2, R5, g1.trans g5, hgo⟩
      | ct => exact fun σ5 H5 Ω5 R5 g5 => ⟨Ω5, S2, w2, R5, g1.trans g5, hgo⟩
      | bk =>
        cases hgo
        exact fun σ5 H5 Ω5 R5 g5 => q σ5 H5 Ω5 R5 (g1.trans g5)
      | rt d =>
        cases hgo
        exact q
    | false =>
      simp only [Bool.false_eq_true, if_false] at hgo ⊢
      cases hgo
      exact q σi H1 Ωi R1 g1
end
end Mini

set_option Elab.async false
set_option linter.all false
set_option maxRecDepth 100000
set_option maxHeartbeats 4000000
/-! Mini G: defs, calls of defs. -/
namespace Mini
open PySem PySem.Spec PyProof.Rows L2

/-! ### room, the guards known -/
structure RoomG (k : Nat) (A : Around) : Prop where
  rm : Room k A
  gd : A.guards = some []
theorem RoomG.mono {j k : Nat} {A : Around} (r : RoomG k A) (h : j ≤ k) : RoomG j A := ⟨r.rm.mono h, r.gd⟩
theorem RoomG.deep {k : Nat} {A : Around} (r : RoomG (k + 1) A) (env : Env) : RoomG k (A.deeper env) := ⟨r.rm.deeper env, r.gd⟩
abbrev SpG := List V → Hp → VK → Prop
structure FnG (P : Program) (w : World) (K : PySem.W.Frag) (mg : Str → Option Value) (base : Heap) (k : Nat) (f : Addr) (fd : FuncData) (ps : List Str) (sp : SpG) : Prop where
  len : ∀ vs H Q, sp vs H Q → vs.length = ps.length
  run : ∀ (A : Around) (outer : List Env) (s : Shared) (H : Hp) (args : Args) (us : List Value) (vs : List V) (Q : VK), RoomG k A → Env0 P w K mg base A outer s H → BindsTo s fd args (ps.zip us) → Vals vs us → sp vs H Q →
    codeAny (model P w) A (.call (.ref f) args) (CR CX0 outer P w H s Q E0) s
theorem FnG.mono {P : Program} {w : World} {K : PySem.W.Frag} {mg : Str → Option Value} {base : Heap} {j k : Nat} {f : Addr} {fd : FuncData} {ps : List Str} {sp : SpG} (F : FnG P w K mg base j f fd ps sp) (h : j ≤ k) : FnG P w K mg base k f fd ps sp :=
  ⟨F.len, fun A outer s H args us vs Q hr => F.run A outer s H args us vs Q (hr.mono h)⟩
section
variable {P : Program} {w : World} {K : PySem.W.Frag} {mg : Str → Option Value} {base : Heap} {k : Nat} {f : Addr} {fd : FuncData} {ps : List Str} {sp : SpG}
/-- a def, by its body -/
theorem fng_of {name qual : Str} {params : Arguments} {body : List Stmt} {scope : Scope} {dV kV doc pm cdv ct oc : Value} {an od : Option Addr} {osl : Array (Option Value)} {N : List Str}
    (lk : K.lookup f = some ⟨oc, od, .func (PySem.W.fnOf name qual params body scope dV kV doc pm an cdv ct), osl⟩) (hcd : PySem.W.codeIn K cdv qual = true) (S : FnScope N ps scope) (len : ∀ vs H Q, sp vs H Q → vs.length = ps.length)
    (hbody : ∀ (A : Around) (outer : List Env) (s : Shared) (H : Hp) (vs : List V) (Q : VK), RoomG k (A.deeper (envOfC qual scope s.heap.objs.size f cdv)) → sp vs H Q →
      ∃ t, PSs (cxOf CX0 P w K mg base N qual scope f cdv A outer s H E0).nox body t ∧ t { nx := fun _ H' => Q .non H', rt := Q } (L2.start N vs) H) :
    FnG P w K mg base (k + 1) f (PySem.W.fnOf name qual params body scope dV kV doc pm an cdv ct) ps sp := by
  refine ⟨len, fun A outer s H args us vs Q hr e0 hb r hsp => ?_⟩
  have lenV := len _ _ _ hsp
  have inK : K.In s.heap := e0.mod.kin.keeps fun b o h => (e0.bs b o h).1
  have noLim : s.heap.NoLimit := e0.mod.nolimit.keeps fun b o h => (e0.bs b o h).1
  have kinds : ∀ y ∈ ps.zip us, scope.names.lookup y.1 = some .local ∨ (scope.names.lookup y.1 = some .cell ∧ ((cellsFrom (s.heap.objs.size + 1) scope.names []).lookup y.1).isSome = true) := by
    rintro ⟨n, v⟩ hy
    rcases S.par n (List.of_mem_zip hy).1 with q | q
    · left; exact q
    · right; exact ⟨q, PySem.W.cellsFrom_some _ _ _ (.inl q)⟩
  refine codeAny_call_function hr.rm.depth (inK _ _ lk) rfl S.co S.gen rfl (PySem.W.codeRec_of inK hcd) (hb _ _ _ _ ?_)
  refine wpAny_newFunctionEnv_cells S.kind kinds fun env he s1 x => ?_
  subst he
  refine ⟨noLim.keeps x.toInCall.keep, codeAny_func ?_⟩
  obtain ⟨t, ht, hq⟩ := hbody A outer s H vs Q (hr.deep _) hsp
  have I : Inv (cxOf CX0 P w K mg base N qual scope f cdv A outer s H E0) [] (L2.start N vs) H s1 := inv_start S hr.rm.hd e0 lenV r x
  refine wpAny_mono (ht.nox.run [] s1 (L2.start N vs) H _ I hq) (fun fl s' hs => ?_) fun e s' hs => hs
  cases fl with
  | ret u =>
    obtain ⟨v, σ', H', J, rv, q⟩ := hs
    exact ⟨v, H', J.os, J.bare, J.base, J.hok, rv, q⟩
  | next =>
    obtain ⟨σ', H', J, q⟩ := hs
    exact ⟨.non, H', J.os, J.bare, J.base, J.hok, rfl, q⟩
  | brk =>
    obtain ⟨_, _, _, q⟩ := hs
    exact False.elim q
  | cont =>
    obtain ⟨_, _, _, q⟩ := hs
    exact False.elim q
theorem fng_fun {x qual : Str} {st : Stmt} {N : List Str} (F : Fun K x qual st f fd) (S : FnScope N ps (defScope st)) (len : ∀ vs H Q, sp vs H Q → vs.length = ps.length)
    (hbody : ∀ (cdv : Value) (A : Around) (outer : List Env) (s : Shared) (H : Hp) (vs : List V) (Q : VK), RoomG k (A.deeper (envOfC qual (defScope st) s.heap.objs.size f cdv)) → sp vs H Q →
      ∃ t, PSs (cxOf CX0 P w K mg base N qual (defScope st) f cdv A outer s H E0).nox (defBody st) t ∧ t { nx := fun _ H' => Q .non H', rt := Q } (L2.start N vs) H) : FnG P w K mg base (k + 1) f fd ps sp := by
  obtain ⟨oc, od, kV, doc, pm, an, cdv, ct, osl, rfl, lk, hcd⟩ := F.ex
  exact fng_of lk hcd S len (hbody cdv)
theorem fng_funD {x qual : Str} {params : Arguments} {body : List Stmt} {scope : Scope} {dvs : List V} {kws : List (Str × V)} {N : List Str} (F : FunD K x qual params body scope dvs kws f fd) (S : FnScope N ps scope) (len : ∀ vs H Q, sp vs H Q → vs.length = ps.length)
    (hbody : ∀ (cdv : Value) (A : Around) (outer : List Env) (s : Shared) (H : Hp) (vs : List V) (Q : VK), RoomG k (A.deeper (envOfC qual scope s.heap.objs.size f cdv)) → sp vs H Q →
      ∃ t, PSs (cxOf CX0 P w K mg base N qual scope f cdv A outer s H E0).nox body t ∧ t { nx := fun _ H' => Q .non H', rt := Q } (L2.start N vs) H) : FnG P w K mg base (k + 1) f fd ps sp := by
  obtain ⟨oc, od, dV, kV, doc, pm, an, cdv, ct, osl, rfl, lk, hcd, _, _⟩ := F.ex
  exact fng_of lk hcd S len (hbody cdv)
end

/-! ### what a def promises: plain data in, plain data out -/
def spM (β : Bool) (n : Nat) (G : List PyData → Option PyData) : SpG := fun vs H Q => ∃ (Ψ : AS) (ds : List PyData) (d : PyData), (∀ a, Ψ a → H a ≠ none) ∧ DvA β Ψ H vs ds ∧ ds.length = n ∧ G ds = some d ∧ ∀ v H', Ext H H' → Dv β Ψ H' v d → Q v H'
/-- the first parameter is the draws' state -/
def spS (β : Bool) (n : Nat) (G : List PyData → Drw → Option (PyData × Drw)) : SpG := fun vs H Q => ∃ (Ψ : AS) (s c : Addr) (us : List V) (w w' : Drw) (ds : List PyData) (d : PyData), vs = .ref s :: us ∧ WOk (some s) c Ψ H w ∧ (∀ a, Ψ a → H a ≠ none) ∧ DvA β Ψ H us ds ∧ ds.length = n ∧ G ds w = some (d, w') ∧
  ∀ v H', Evs (some s) H H' → WOk (some s) c Ψ H' w' → Dv β Ψ H' v d → Q v H'
theorem spM_len {β : Bool} {n : Nat} {G : List PyData → Option PyData} {ps : List Str} (h : ps.length = n) : ∀ vs H Q, spM β n G vs H Q → vs.length = ps.length := by
  rintro vs H Q ⟨Ψ, ds, d, _, h1, h2, _⟩
  rw [h1.length, h2, h]
theorem spS_len {β : Bool} {n : Nat} {G : List PyData → Drw → Option (PyData × Drw)} {ps : List Str} (h : ps.length = n + 1) : ∀ vs H Q, spS β n G vs H Q → vs.length = ps.length := by
  rintro vs H Q ⟨Ψ, s, c, us, w, w', ds, d, rfl, _, _, h1, h2, _⟩
  rw [List.length_cons, h1.length, h2, h]
def w0 : Drw := ⟨[], 0, 0, 0, 0, 0⟩
/-- the parameters' slots, then m others -/
def env0 (m : Nat) (ds : List PyData) : SEnv := ds.map .val ++ List.replicate m .no
def flD : Fl → Option PyData
  | .rt d => some d
  | .nx => some .none
  | _ => none
def runM (m : Nat) (b : MS) (ds : List PyData) : Option PyData := (b (env0 m ds) w0).bind fun r => flD r.1
def runS (m : Nat) (b : MS) (ds : List PyData) (w : Drw) : Option (PyData × Drw) := (b (.stt :: env0 m ds) w).bind fun r => (flD r.1).map fun d => (d, r.2.2)
theorem start_get {N : List Str} {vs : List V} {i : Nat} {v : V} (h : vs[i]? = some v) : (L2.start N vs)[i]? = some (some v) := by
  have hi := (List.getElem?_eq_some_iff.mp h).1
  unfold L2.start
  rw [List.getElem?_append_left (by rw [List.length_map]; exact hi), List.getElem?_map, h]
  rfl
theorem env0_get {m : Nat} {ds : List PyData} {i : Nat} {sl : Sl} (h : (env0 m ds)[i]? = some sl) : sl = .no ∨ ∃ d, ds[i]? = some d ∧ sl = .val d := by
  unfold env0 at h
  by_cases hi : i < ds.length
  · rw [List.getElem?_append_left (by rw [List.length_map]; exact hi), List.getElem?_map, List.getElem?_eq_getElem hi] at h
    cases h
    exact .inr ⟨_, List.getElem?_eq_getElem hi, rfl⟩
  · rw [List.getElem?_append_right (by rw [List.length_map]; omega), List.getElem?_replicate] at h
    split at h
    · cases h; exact .inl rfl
    · cases h
theorem start_length {N : List Str} {vs : List V} (h : vs.length ≤ N.length) : (L2.start N vs).length = N.length := by
  unfold L2.start
  rw [List.length_append, List.length_map, List.length_replicate]
  omega
theorem rel_start {β : Bool} {N : List Str} {H : Hp} {Ψ : AS} {vs : List V} {ds : List PyData} {m n : Nat} (h0 : ∀ a, Ψ a → H a ≠ none) (h : DvA β Ψ H vs ds) (hn : ds.length = n) (hN : N.length = n + m) (w : Drw) :
    Rel (β := β) ⟨none, 0, H, Ψ⟩ H Ψ (L2.start N vs) (env0 m ds) w := by
  have lv := h.length
  refine ⟨fun a o k _ => k, fun a k => k, h0, h0, ?_, fun i sl k => ?_, fun i j d e a k _ _ _ => ?_, trivial⟩
  · rw [start_length (by omega)]
    unfold env0
    rw [List.length_append, List.length_map, List.length_replicate]
    omega
  · rcases env0_get k with rfl | ⟨d, hd, rfl⟩
    · trivial
    · obtain ⟨v, hv, dv⟩ := h.get hd
      exact ⟨v, start_get hv, dv⟩
  · rcases env0_get k with z | ⟨d, hd, z⟩ <;> cases z
theorem rel_startS {β : Bool} {N : List Str} {H : Hp} {Ψ : AS} {s c : Addr} {vs : List V} {ds : List PyData} {m n : Nat} {w : Drw} (hw : WOk (some s) c Ψ H w) (h0 : ∀ a, Ψ a → H a ≠ none) (h : DvA β Ψ H vs ds) (hn : ds.length = n) (hN : N.length = n + 1 + m) :
    Rel (β := β) ⟨some s, c, H, Ψ⟩ H Ψ (L2.start N (.ref s :: vs)) (.stt :: env0 m ds) w := by
  have lv := h.length
  have at_ : ∀ (i : Nat) (sl : Sl), (Sl.stt :: env0 m ds)[i]? = some sl → (i = 0 ∧ sl = .stt) ∨ sl = .no ∨ ∃ d j, i = j + 1 ∧ ds[j]? = some d ∧ sl = .val d := fun i sl k => by
    cases i with
    | zero => cases k; exact .inl ⟨rfl, rfl⟩
    | succ j =>
      rw [List.getElem?_cons_succ] at k
      rcases env0_get k with z | ⟨d, z1, z2⟩
      · exact .inr (.inl z)
      · exact .inr (.inr ⟨d, j, rfl, z1, z2⟩)
  refine ⟨fun a o k _ => k, fun a k => k, h0, h0, ?_, fun i sl k => ?_, fun i j d e a k _ _ _ => ?_, hw⟩
  · rw [start_length (by rw [List.length_cons]; omega)]
    unfold env0
    rw [List.length_cons, List.length_append, List.length_map, List.length_replicate]
    omega
  · rcases at_ i sl k with ⟨rfl, rfl⟩ | rfl | ⟨d, j, rfl, hd, rfl⟩
    · exact ⟨s, rfl, start_get rfl⟩
    · trivial
    · obtain ⟨v, hv, dv⟩ := h.get hd
      exact ⟨v, start_get (by rw [List.getElem?_cons_succ]; exact hv), dv⟩
  · rcases at_ i _ k with ⟨_, z⟩ | z | ⟨d, j, _, _, z⟩ <;> cases z
/-- the body's model keeps the promise -/
theorem body_M {β : Bool} {n m : Nat} {b : MS} {N : List Str} (hN : N.length = n + m) {vs : List V} {H : Hp} {Q : VK} (h : spM β n (runM m b) vs H Q) : tSv β b { nx := fun _ H' => Q .non H', rt := Q } (L2.start N vs) H := by
  obtain ⟨Ψ, ds, d, h0, h1, h2, h3, q⟩ := h
  obtain ⟨⟨fl, S', w'⟩, h4, h5⟩ := Option.bind_eq_some_iff.mp h3
  refine ⟨⟨none, 0, H, Ψ⟩, Ψ, _, w0, fl, S', w', rel_start h0 h1 h2 hN w0, h4, ?_⟩
  cases fl with
  | nx =>
    cases h5
    exact fun σ' H' Ω' R g => q .non H' (fun a o k => R.ext a o k fun z => nomatch z) .non
  | rt e =>
    cases h5
    exact fun v H' e k dv => q v H' (fun a o k => e a o k fun z => nomatch z) dv
  | bk => cases h5
  | ct => cases h5
theorem body_S {β : Bool} {n m : Nat} {b : MS} {N : List Str} (hN : N.length = n + 1 + m) {vs : List V} {H : Hp} {Q : VK} (h : spS β n (runS m b) vs H Q) : tSv β b { nx := fun _ H' => Q .non H', rt := Q } (L2.start N vs) H := by
  obtain ⟨Ψ, s, c, us, w, w', ds, d, rfl, hw, h0, h1, h2, h3, q⟩ := h
  obtain ⟨⟨fl, S', w2⟩, h4, h5⟩ := Option.bind_eq_some_iff.mp h3
  obtain ⟨d', h6, h7⟩ := Option.map_eq_some_iff.mp h5
  cases h7
  refine ⟨⟨some s, c, H, Ψ⟩, Ψ, _, w, fl, S', _, rel_startS hw h0 h1 h2 hN, h4, ?_⟩
  cases fl with
  | nx =>
    cases h6
    exact fun σ' H' Ω' R g => q .non H' R.out R.wok .non
  | rt e =>
    cases h6
    exact fun v H' e k dv => q v H' e k dv
  | bk => cases h6
  | ct => cases h6

/-! ### calls -/
section
variable {β : Bool} {X : Cx} {k n : Nat} {f : Addr} {fd : FuncData} {ps : List Str} {sp : SpG} {x : Str} {p pos p2 : Pos} {e : Expr} {es : List Expr} {mr : MA} {ds : List Value} {dvs : List V} {t : TA}
theorem ite_some' {α : Type} {c : Prop} [Decidable c] {a : Option α} {d : α} (h : (if c then a else none) = some d) : c ∧ a = some d := by
  by_cases k : c
  · rw [if_pos k] at h
    exact ⟨k, h⟩
  · rw [if_neg k] at h
    cases h
def tCallG (sp : SpG) (dvs : List V) (t : TA) : TE := fun σ H Q => t σ H fun vs H1 => sp (vs ++ dvs) H1 Q
theorem run_G {pins : List (Addr × Obj)} {σ : L2.St} {H : Hp} {s : Shared} {Q : VK} {us : List Value} {vs : List V} (F : FnG X.prog X.w X.K X.mg X.base k f fd ps sp) (hr : RoomG k X.A) (hb : Binds X.K fd ps ds) (hd : Vals dvs ds) (I : Inv X pins σ H s) (r : Vals vs us) (h : sp (vs ++ dvs) H Q) :
    wpAny (model X.prog X.w) X.A (call (.ref f) us) (EP X pins σ Q) X.xe s := by
  have rr : Vals (vs ++ dvs) (us ++ ds) := r.append hd
  have ll : (us ++ ds).length = ps.length := by rw [← rr.length]; exact F.len _ _ _ h
  refine wpAny_call (codeAny_mono (F.run X.A X.stack s H ⟨us, []⟩ (us ++ ds) (vs ++ dvs) Q hr I.env0 (hb s us I.kIn ll) rr h) fun res s' hq => ?_)
  cases res with
  | error e => exact False.elim hq
  | ok fl => cases fl with
    | ret u => exact I.after hq
    | next => exact False.elim hq
    | brk => exact False.elim hq
    | cont => exact False.elim hq
theorem pe_callG (F : FnG X.prog X.w X.K X.mg X.base k f fd ps sp) (hr : RoomG k X.A) (hg : Gl X x) (hm : X.mg x = some (.ref f)) (hk : PySem.W.keepIn X.K (.ref f) = true) (hb : Binds X.K fd ps ds) (hd : Vals dvs ds)
    (ha : PA X (e :: es) t) (hdb : (x == ("__debug__" : Str)) = false := by decide) (he : starEach (e :: es) X.env = (false, eval e X.env) :: starEach es X.env := by rfl) (hpl : (backTo pos (starEach es X.env)).any (·.1) = false := by rfl) :
    PE X (.Call (.Name x p) (e :: es) [] pos) (tCallG sp dvs t) := by
  refine ⟨fun pins s σ H Q I h => wpAny_Call_Name_kw (ld_glob I hg hm ?_ hdb)⟩
  refine PySem.W.callWith_K (h₀ := X.base) I.ok.mod.kin hk (thn (ha.run pos pins s σ H _ I h) fun us s1 ⟨vs, H1, I1, r, q⟩ => ⟨I1.kIn, ?_⟩) he hpl
  exact run_G F hr hb hd I1 r q
theorem pe_callG0 (F : FnG X.prog X.w X.K X.mg X.base k f fd ps sp) (hr : RoomG k X.A) (hg : Gl X x) (hm : X.mg x = some (.ref f)) (hk : PySem.W.keepIn X.K (.ref f) = true) (hb : Binds X.K fd ps ds) (hd : Vals dvs ds)
    (hdb : (x == ("__debug__" : Str)) = false := by decide) : PE X (.Call (.Name x p) [] [] pos) (tCallG sp dvs tNil) := by
  refine ⟨fun pins s σ H Q I h => wpAny_Call_Name_kw (ld_glob I hg hm ?_ hdb)⟩
  exact PySem.W.callWith_K0 I.kIn hk (run_G (us := []) F hr hb hd I .nil h)
/-- what a caller knows of a def; dv: the defaults that fill up -/
structure DefP (P : Program) (w : World) (K : PySem.W.Frag) (mg : Str → Option Value) (base : Heap) (k : Nat) (x : Str) (sp : SpG) (dv : List V) : Prop where
  ex : ∃ (f : Addr) (fd : FuncData) (ps : List Str) (ds : List Value), FnG P w K mg base k f fd ps sp ∧ mg x = some (.ref f) ∧ PySem.W.keepIn K (.ref f) = true ∧ Binds K fd ps ds ∧ Vals dv ds
theorem call_M {G : List PyData → Option PyData} {dv : List V} {dd : List PyData} (hd : ∀ Ω H, DvA β Ω H dv dd) {σ : L2.St} {H : Hp} {Q : VK} (h : tEv β .esc (mF (fun ds => if ds.length + dd.length = n then G (ds ++ dd) else none) mr) σ H Q) : tCallG (spM β n G) dv (tAs β .esc mr) σ H Q := by
  obtain ⟨F, Ω, S, w, w', d, R, hm, q⟩ := h
  unfold mF at hm
  obtain ⟨⟨ds, w1⟩, h1, hm⟩ := Option.bind_eq_some_iff.mp hm
  obtain ⟨d', h2, hm⟩ := Option.map_eq_some_iff.mp hm
  cases hm
  obtain ⟨hl, h3⟩ := ite_some' h2
  refine ⟨F, Ω, S, w, _, ds, R, h1, fun vs H1 R1 e1 hvs => ?_⟩
  exact ⟨Ω, ds ++ dd, d, R1.dom, hvs.dv.append (hd Ω H1), by rw [List.length_append]; exact hl, h3, fun v H2 e2 hv => q v H2 (R1.ex e2) (e1.trans e2.evs) hv⟩
theorem de_callD {G : List PyData → Option PyData} {dv : List V} {dd : List PyData} (D : DefP X.prog X.w X.K X.mg X.base k x (spM β n G) dv) (hd : ∀ Ω H, DvA β Ω H dv dd) (hr : RoomG k X.A) (hg : Gl X x) (ha : DA β .esc X (e :: es) mr) (hdb : (x == ("__debug__" : Str)) = false := by decide) (he : starEach (e :: es) X.env = (false, eval e X.env) :: starEach es X.env := by rfl) (hpl : (backTo pos (starEach es X.env)).any (·.1) = false := by rfl) :
    DE β .esc X (.Call (.Name x p) (e :: es) [] pos) (mF (fun ds => if ds.length + dd.length = n then G (ds ++ dd) else none) mr) := by
  obtain ⟨f, fd, ps, ds, F, hm, hk, hb, hv⟩ := D.ex
  exact pe_imp (pe_callG F hr hg hm hk hb hv ha hdb he hpl) fun _ _ _ h => call_M hd h
/-- the def's model at these arguments -/
def cal (n : Nat) (G : List PyData → Option PyData) (ds : List PyData) : Option PyData := if ds.length = n then G ds else none
theorem de_call {G : List PyData → Option PyData} (D : DefP X.prog X.w X.K X.mg X.base k x (spM β n G) []) (hr : RoomG k X.A) (hg : Gl X x) (ha : DA β .esc X (e :: es) mr) (hdb : (x == ("__debug__" : Str)) = false := by decide) (he : starEach (e :: es) X.env = (false, eval e X.env) :: starEach es X.env := by rfl) (hpl : (backTo pos (starEach es X.env)).any (·.1) = false := by rfl) :
    DE β .esc X (.Call (.Name x p) (e :: es) [] pos) (mF (cal n G) mr) := by
  refine pe_imp (de_callD (dd := []) D (fun _ _ => .nil) hr hg ha hdb he hpl) fun σ H Q ⟨F, Ω, S, w, w', d, R, hm, q⟩ => ⟨F, Ω, S, w, w', d, R, ?_, q⟩
  unfold mF cal at hm
  unfold mF
  simp only [List.length_nil, Nat.add_zero, List.append_nil]
  exact hm
theorem de_call0 {G : List PyData → Option PyData} (D : DefP X.prog X.w X.K X.mg X.base k x (spM β 0 G) []) (hr : RoomG k X.A) (hg : Gl X x) (hdb : (x == ("__debug__" : Str)) = false := by decide) :
    DE β .esc X (.Call (.Name x p) [] [] pos) (fun _ w => (G []).map fun d => (d, w)) := by
  obtain ⟨f, fd, ps, ds, F, hm, hk, hb, hv⟩ := D.ex
  refine pe_imp (pe_callG0 F hr hg hm hk hb hv hdb) fun σ H Q ⟨F, Ω, S, w, w', d, R, hm, q⟩ => ?_
  obtain ⟨d', h2, hm⟩ := Option.map_eq_some_iff.mp hm
  cases hm
  exact ⟨Ω, [], d, R.dom, .nil, rfl, h2, fun v H2 e2 hv => q v H2 (R.ex e2) e2.evs hv⟩
/-- the draws' state first -/
def mFS (i n : Nat) (G : List PyData → Drw → Option (PyData × Drw)) (a : MA) : ME := fun S w => match S[i]? with
  | some .stt => (a S w).bind fun q => if q.1.length = n then G q.1 q.2 else none
  | _ => none
theorem de_callS {G : List PyData → Drw → Option (PyData × Drw)} {y : Str} {i : Nat} (D : DefP X.prog X.w X.K X.mg X.base k x (spS β n G) []) (hr : RoomG k X.A) (hg : Gl X x) (hv : PE X (.Name y p2) (tVar i)) (ha : DA β .esc X es mr) (hdb : (x == ("__debug__" : Str)) = false := by decide)
    (he : starEach (.Name y p2 :: es) X.env = (false, eval (.Name y p2) X.env) :: starEach es X.env := by rfl) (hpl : (backTo pos (starEach es X.env)).any (·.1) = false := by rfl) :
    DE β .esc X (.Call (.Name x p) (.Name y p2 :: es) [] pos) (mFS i n G mr) := by
  obtain ⟨f, fd, ps, ds, F, hm, hk, hb, hvv⟩ := D.ex
  refine pe_imp (pe_callG F hr hg hm hk hb hvv (pa_cons hv ha he) hdb he hpl) fun σ H Q ⟨F, Ω, S, w, w', d, R, hm, q⟩ => ?_
  unfold mFS at hm
  split at hm
  · rename_i hi
    obtain ⟨⟨ds, w1⟩, h1, hm⟩ := Option.bind_eq_some_iff.mp hm
    obtain ⟨s, s1, s2⟩ := R.slot i _ hi
    have hm' : ds.length = n ∧ G ds w1 = some (d, w') := by
      by_cases c : ds.length = n
      · exact ⟨c, by rw [← hm]; exact (if_pos c).symm⟩
      · have h2' : (if ds.length = n then G ds w1 else none) = some (d, w') := hm
        rw [if_neg c] at h2'; cases h2'
    refine ⟨_, s2, F, Ω, S, w, w1, ds, R, h1, fun vs H1 R1 e1 hvs => ?_⟩
    dsimp only
    rw [List.append_nil]
    have k1 := R1.wok
    rw [s1] at k1
    have kb := R1.base
    refine ⟨Ω, s, F.cl, vs, w1, w', ds, d, rfl, ⟨kb _ k1.1, kb _ k1.2.1, k1.2.2⟩, R1.dom, hvs.dv, hm'.1, hm'.2, fun v H2 e2 k2 hv => ?_⟩
    have e2' : Evs F.st H1 H2 := by rw [s1]; exact e2
    have k3 : WOk F.st F.cl F.Ψ H2 w' := by rw [s1]; exact ⟨k1.1, k1.2.1, k2.2.2⟩
    exact q v H2 (R1.evs e2' k3) (e1.trans e2') hv
  · cases hm
end
/-- a def of the text from its body's model -/
theorem def_M {β : Bool} {P : Program} {w : World} {K : PySem.W.Frag} {mg : Str → Option Value} {base : Heap} {k : Nat} {f : Addr} {fd : FuncData} {x qual : Str} {params : Arguments} {body : List Stmt} {scope : Scope} {dvs : List V} {kws : List (Str × V)} {N ps : List Str} {n m : Nat} {b : MS} (F : FunD K x qual params body scope dvs kws f fd) (S : FnScope N ps scope) (hn : ps.length = n) (hN : N.length = n + m)
    (hb : ∀ (cdv : Value) (A : Around) (outer : List Env) (s : Shared) (H : Hp), RoomG k (A.deeper (envOfC qual scope s.heap.objs.size f cdv)) → DB β (cxOf CX0 P w K mg base N qual scope f cdv A outer s H E0).nox body b) :
    FnG P w K mg base (k + 1) f fd ps (spM β n (runM m b)) :=
  fng_funD F S (spM_len hn) fun cdv A outer s H vs Q hr hsp => ⟨_, hb cdv A outer s H hr, body_M hN hsp⟩
theorem def_S {β : Bool} {P : Program} {w : World} {K : PySem.W.Frag} {mg : Str → Option Value} {base : Heap} {k : Nat} {f : Addr} {fd : FuncData} {x qual : Str} {params : Arguments} {body : List Stmt} {scope : Scope} {dvs : List V} {kws : List (Str × V)} {N ps : List Str} {n m : Nat} {b : MS} (F : FunD K x qual params body scope dvs kws f fd) (S : FnScope N ps scope) (hn : ps.length = n + 1) (hN : N.length = n + 1 + m)
    (hb : ∀ (cdv : Value) (A : Around) (outer : List Env) (s : Shared) (H : Hp), RoomG k (A.deeper (envOfC qual scope s.heap.objs.size f cdv)) → DB β (cxOf CX0 P w K mg base N qual scope f cdv A outer s H E0).nox body b) :
    FnG P w K mg base (k + 1) f fd ps (spS β n (runS m b)) :=
  fng_funD F S (spS_len hn) fun cdv A outer s H vs Q hr hsp => ⟨_, hb cdv A outer s H hr, body_S hN hsp⟩
/-- an own constant of the module -/
theorem de_gconst {β : Bool} {X : Cx} {x : Str} {pos : Pos} {i : Int} (hg : Gl X x) (hm : ∃ t, X.mg x = some (.int i t)) (hd : (x == ("__debug__" : Str)) = false := by decide) : DE β .esc X (.Name x pos) (mC (.int i)) := by
  obtain ⟨t, e⟩ := hm
  exact de_gint hg e ⟨t, rfl⟩ hd
end Mini

set_option Elab.async false
set_option linter.all false
set_option maxRecDepth 100000
set_option maxHeartbeats 4000000
/-! Mini H: the law's own head. -/
namespace Mini
open PySem PySem.Spec PyProof.Rows L2

/-- the law's promise at the heap behind the top -/
theorem law_callG {P : Program} {w : World} {K : PySem.W.Frag} {mg mb : Str → Option Value} {k : Nat} {fa a : Addr} {fd : FuncData} {x : Str} {sp : SpG} {s1 : Shared} {vs : List Value} {ns : List Int}
    (inK : K.In s1.heap) (gns : s1.heap.Ns mainGlobals mg) (bns : s1.heap.Ns builtinsNs mb) (bbt : ∀ x : Str, x ≠ "__name__" → mb x = bootBuiltins x) (nlm : s1.heap.NoLimit) (gen : s1.gens = #[])
    (obj : s1.heap.get? a = some { cls := .type "list", data := .seq vs.toArray }) (hints : IntsAre vs ns) (few : ns.length ≤ sizeLine) (hr : RoomG k callerA)
    (F : ∀ base : Heap, K.In base → base.Ns mainGlobals mg → FnG P w K mg base k fa fd [x] sp) (bnd : ∀ (s : Shared) (u : Value), BindsTo s fd ⟨[u], []⟩ [(x, u)])
    (hsp : ∀ H : Hp, Only H → SqL K H a (ns.map V.int) → sp [.ref a] H fun v _ => v = .bl true) :
    codeAny (model P w) callerA (.call (.ref fa) ⟨[.ref a], []⟩) (fun r s' => r = .ok (.ret (.bool true)) ∧ OldK s1.heap s'.heap ∧ s'.os = s1.os ∧ AllBare s'.gens) s1 := by
  have rv := vals_ints hints
  have lv := hints.length
  have main : ∀ H : Hp, Only H → SqL K H a (ns.map V.int) → HOk P w H s1.heap → (∀ b, H b ≠ none → b = a) → (H a ≠ none → K.lookup a = none) →
      codeAny (model P w) callerA (.call (.ref fa) ⟨[.ref a], []⟩) (fun r s' => r = .ok (.ret (.bool true)) ∧ OldK s1.heap s'.heap ∧ s'.os = s1.os ∧ AllBare s'.gens) s1 := by
    intro H only sq ok one notK
    have there : ∀ {b : Addr} {o : Obj}, s1.heap.get? b = some o → H b = none → (hidT s1.heap H).get? b = some o := fun q n => hidT_get q n
    have dictNo : ∀ {b : Addr} {o : Obj} {es : Array DictEntry} {ep : Nat}, s1.heap.get? b = some o → o.data = .dict es ep → H b = none := by
      intro b o es ep q dt
      cases h : H b with
      | none => rfl
      | some u =>
        have ba : b = a := one b (by rw [h]; exact fun z => nomatch z)
        rw [ba, obj] at q
        cases q
        exact absurd (show Data.seq vs.toArray _ = Data.dict es ep from dt) fun z => nomatch z
    have ns' : ∀ {b : Addr} {m : Str → Option Value}, s1.heap.Ns b m → (hidT s1.heap H).Ns b m := by
      rintro b m ⟨o, es, ep, q, dt, r⟩
      exact ⟨o, es, ep, there q (dictNo q dt), dt, r⟩
    have kb : K.In (hidT s1.heap H) := by
      intro b o q
      refine there (inK b o q) ?_
      cases h : H b with
      | none => rfl
      | some u =>
        have ba : b = a := one b (by rw [h]; exact fun z => nomatch z)
        subst ba
        rw [notK (by rw [h]; exact fun z => nomatch z)] at q
        cases q
    have md : Mod K mg (hidT s1.heap H) := ⟨kb, ns' gns, ⟨mb, ns' bns, bbt⟩, let ⟨mc, u1, u2⟩ := nlm; ⟨mc, ns' u1, u2⟩⟩
    have e0 : Env0 P w K mg (hidT s1.heap H) callerA [] s1 H := ⟨rfl, md, fun b o q => of_hidT q, Nat.le_of_eq (hidT_size _ _), trivial, (fun b z => by cases z), ok, .of_eq gen⟩
    refine codeAny_mono ((F _ kb (ns' gns)).run callerA [] s1 H ⟨[.ref a], []⟩ [.ref a] [.ref a] _ hr e0 (bnd s1 (.ref a)) (.cons rfl .nil) (hsp H only sq)) fun r s' h => ?_
    cases r with
    | error e => exact False.elim h
    | ok fl => cases fl with
      | next => exact False.elim h
      | brk => exact False.elim h
      | cont => exact False.elim h
      | ret u =>
        obtain ⟨v, H', os, bare, un, ok', rr, q⟩ := h
        obtain rfl : v = .bl true := q
        obtain rfl : u = Value.bool true := rr
        refine ⟨rfl, OldK.of_keep fun b o q => ?_, os, bare⟩
        cases hb : H b with
        | none => exact un.keep b o q hb (fun z => by cases z) (fun z => by cases z)
        | some u =>
          rcases only b with z | ⟨ob, xs, z⟩
          · rw [hb] at z
            cases z
          · obtain ⟨q1, _⟩ := ok b _ z
            obtain ⟨q2, _⟩ := ok' b _ (un.frzs b ob _ z)
            rw [q] at q1
            cases q1
            exact q2
  cases hk : K.lookup a with
  | some o =>
    have q := inK a o hk
    rw [obj] at q
    cases q
    exact main (fun _ => none) (fun _ => .inl rfl) (.inr ⟨_, vs.toArray, _, hk, rfl, rfl, rfl, by rw [List.size_toArray, lv]; exact few, by simpa using rv⟩) (fun b u z => by have z' : (none : Option HO) = some u := z; cases z') (fun b z => absurd rfl z) fun z => absurd rfl z
  | none =>
    refine main (fun b => if b = a then some (.frz { cls := .type "list", data := .seq vs.toArray } (.lst (ns.map V.int))) else none) (fun b => ?_) (.inl (.inr ⟨_, if_pos rfl⟩)) (fun b u z => ?_) (fun b z => ?_) fun _ => hk
    · by_cases ba : b = a
      · exact .inr ⟨_, _, if_pos ba⟩
      · exact .inl (if_neg ba)
    · by_cases ba : b = a
      · subst ba
        cases (if_pos rfl).symm.trans z
        exact ⟨obj, by rw [List.length_map]; exact few, vs, _, rv, obj⟩
      · cases (if_neg ba).symm.trans z
    · by_cases ba : b = a
      · exact ba
      · exact absurd (if_neg ba) z
/-- behind k_head: the goal of the walk -/
theorem walk_G {l : PySem.W.OpenLaw} {n k : Nat} {q : Program} {loose : List Str} {XP : (Str → Option Value) → Heap → Prop} {YP : World → Heap → Prop} {d : DefRec} {K : Params → PySem.W.Frag} {sp : World → SpG} {x : Str}
    (hn : l.most = some n) (hn2 : n ≤ sizeLine) (hdf : d.params.defaults = []) (hr : RoomG k callerA)
    (hY : ∀ (w : World) (h : Heap), YP w h → (K w.params).In h)
    (F : ∀ (w : World) (mg : Str → Option Value) (fa : Addr) (h : Heap), (K w.params).In h → h.Ns mainGlobals mg → mg d.name = some (.ref fa) →
      ∃ fd : FuncData, (∀ (s : Shared) (u : Value), BindsTo s fd ⟨[u], []⟩ [(x, u)]) ∧ ∀ base : Heap, (K w.params).In base → base.Ns mainGlobals mg → FnG l.prog w (K w.params) mg base k fa fd [x] (sp w))
    (hsp : ∀ (w : World) (H : Hp) (a : Addr) (ns : List Int), ns.length ≤ n → (∀ z ∈ ns, Builtin.Int.intBits z ≤ 1048576) → Only H → SqL (K w.params) H a (ns.map V.int) → sp w [.ref a] H fun v _ => v = .bl true) :
    PySem.W.WalkO q loose XP YP l.row.toRowW d [] (fun f vs => PySem.call f vs) := by
  refine Att.attach_callB hn hdf fun w s0 s1 mg mb fa o pm cd doc a vs ns G Y ho hd hcd hmg hobj hints hlen hbits hg => ?_
  have inK := hY w _ Y
  obtain ⟨fd, hb, hF⟩ := F w mg fa _ inK G.T.g hmg
  exact law_callG inK G.T.g G.T.b G.T.builtins G.T.nolimit hg hobj hints (Nat.le_trans hlen hn2) hr hF hb fun H h1 h2 => hsp w H a ns hlen hbits h1 h2
/-- the same, the written part known by its facts alone -/
theorem walk_GE {l : PySem.W.OpenLaw} {n k : Nat} {q : Program} {loose : List Str} {XP : (Str → Option Value) → Heap → Prop} {YP : World → Heap → Prop} {d : DefRec} {x : Str}
    (hn : l.most = some n) (hn2 : n ≤ sizeLine) (hdf : d.params.defaults = []) (hr : RoomG k callerA)
    (F : ∀ (w : World) (mg : Str → Option Value) (fa : Addr) (h : Heap), YP w h → h.Ns mainGlobals mg → mg d.name = some (.ref fa) →
      ∃ (K : PySem.W.Frag) (fd : FuncData) (sp : SpG), K.In h ∧ (∀ (s : Shared) (u : Value), BindsTo s fd ⟨[u], []⟩ [(x, u)]) ∧
        (∀ (H : Hp) (a : Addr) (ns : List Int), ns.length ≤ n → (∀ z ∈ ns, Builtin.Int.intBits z ≤ 1048576) → Only H → SqL K H a (ns.map V.int) → sp [.ref a] H fun v _ => v = .bl true) ∧
        ∀ base : Heap, K.In base → base.Ns mainGlobals mg → FnG l.prog w K mg base k fa fd [x] sp) :
    PySem.W.WalkO q loose XP YP l.row.toRowW d [] (fun f vs => PySem.call f vs) := by
  refine Att.attach_callB hn hdf fun w s0 s1 mg mb fa o pm cd doc a vs ns G Y ho hd hcd hmg hobj hints hlen hbits hg => ?_
  obtain ⟨K, fd, sp, inK, hb, hsp, hF⟩ := F w mg fa _ Y G.T.g hmg
  exact law_callG inK G.T.g G.T.b G.T.builtins G.T.nolimit hg hobj hints (Nat.le_trans hlen hn2) hr hF hb fun H h1 h2 => hsp H a ns hlen hbits h1 h2
theorem room_caller {k : Nat} (h : Room k callerA) : RoomG k callerA := ⟨h, rfl⟩
end Mini

set_option Elab.async false
set_option linter.all false
set_option maxRecDepth 100000
set_option maxHeartbeats 4000000
/-! Mini I: slices, chains of comparisons, more built-ins over plain data. -/
namespace HTm
open PySem PySem.Spec PyProof.Rows HT
section
variable {prog : Program} {w : World} {A : Around} {E : Value → Shared → Prop} {s : Shared}
theorem adj_rev (n : Nat) : Builtin.Slice.sliceAdjust none none (-1) (n : Int) = ((n : Int) - 1, -1) := by
  unfold Builtin.Slice.sliceAdjust
  simp
theorem places_rev (n : Nat) : Builtin.Slice.slicePlaces ((n : Int) - 1) (-1) (-1) = n := by
  unfold Builtin.Slice.slicePlaces
  simp
  omega
theorem applied_rev {sl : Addr} {vl vu vs : Value} {n : Nat} {Q : Int × Int × Nat → Shared → Prop} (hs : s.heap.IsSliceOf sl vl vu vs) (pl : IsPart vl none) (pu : IsPart vu none) (ps : IsPart vs (some (-1))) (h : Q ((n : Int) - 1, -1, n) s) :
    wpAny (model prog w) A (Builtin.Slice.sliceApplied (.ref sl) (pure (n : Int))) Q E s := by
  obtain ⟨os, hos, hcs, hds⟩ := id hs
  unfold Builtin.Slice.sliceApplied Builtin.Slice.sliceFields
  refine wpAny_bind (wpAny_bind (wpAny_field hos hds (x := vl) rfl (wpAny_bind (wpAny_field hos hds (x := vu) rfl (wpAny_bind (wpAny_field hos hds (x := vs) rfl (wpAny_pure ?_)))))))
  refine wpAny_bind (slicePart_ ps ?_)
  show wpAny _ _ (if ((-1 : Int) == 0) = true then _ else _) _ _ s
  rw [if_neg (by decide)]
  refine wpAny_bind (slicePart_ pl (wpAny_bind (slicePart_ pu (wpAny_bind (wpAny_pure ?_)))))
  show wpAny _ _ (match Builtin.Slice.sliceAdjust none none (-1) (n : Int) with | (lo, hi) => pure (lo, (-1 : Int), Builtin.Slice.slicePlaces lo hi (-1))) _ _ s
  rw [adj_rev n]
  show wpAny _ _ (pure ((n : Int) - 1, (-1 : Int), Builtin.Slice.slicePlaces ((n : Int) - 1) (-1) (-1))) _ _ s
  rw [places_rev]
  exact wpAny_pure h
theorem fm_congr {α β : Type} {f g : α → Option β} : ∀ {l : List α}, (∀ x ∈ l, f x = g x) → l.filterMap f = l.filterMap g
  | [], _ => rfl
  | a :: l, h => by
    rw [List.filterMap_cons, List.filterMap_cons, h a List.mem_cons_self, fm_congr fun x hx => h x (List.mem_cons_of_mem _ hx)]
theorem pick_rev (xs : Array Value) : ((List.range xs.size).filterMap fun (m : Nat) => xs[(((xs.size : Nat) : Int) - 1 + (m : Int) * (-1)).toNat]?).toArray = xs.toList.reverse.toArray := by
  congr 1
  have key : ∀ (l : List Value), (List.range l.length).filterMap (fun (m : Nat) => l[((l.length : Int) - 1 + (m : Int) * (-1)).toNat]?) = l.reverse := fun l => by
    induction l with
    | nil => rfl
    | cons x r ih =>
      rw [List.length_cons, List.range_succ, List.filterMap_append, List.reverse_cons, ← ih]
      congr 1
      · refine fm_congr fun m hm => ?_
        have hm := List.mem_range.mp hm
        have e1 : (((r.length + 1 : Nat) : Int) - 1 + (m : Int) * (-1)).toNat = ((r.length : Int) - 1 + (m : Int) * (-1)).toNat + 1 := by omega
        rw [e1, List.getElem?_cons_succ]
      · have e1 : (((r.length + 1 : Nat) : Int) - 1 + (r.length : Int) * (-1)).toNat = 0 := by omega
        simp only [List.filterMap_cons, List.filterMap_nil, e1, List.getElem?_cons_zero]
  have h := key xs.toList
  rw [Array.length_toList] at h
  rw [← h]
  refine fm_congr fun m hm => ?_
  rw [Array.getElem?_toList]
theorem getItem_tup_rev {t sl : Addr} {items : Array Value} {vl vu vs : Value} {Q : Value → Shared → Prop} (ht : IsTup s.heap t items) (hs : s.heap.IsSliceOf sl vl vu vs) (pl : IsPart vl none) (pu : IsPart vu none) (ps : IsPart vs (some (-1)))
    (h : Q (.ref s.heap.objs.size) { s with heap := s.heap.push { cls := .type "tuple", data := .seq items.toList.reverse.toArray } }) (hsz : items.size ≤ sizeLine) : wpAny (model prog w) A (getItem (.ref t) (.ref sl)) Q E s := by
  have hz : sizeOk (.seq items.toList.reverse.toArray) := by
    show items.toList.reverse.toArray.size ≤ sizeLine
    rw [List.size_toArray, List.length_reverse, Array.length_toList]
    exact hsz
  obtain ⟨os, hos, hcs, hds⟩ := id hs
  have hTs : s.TypeIs (.ref sl) "slice" := ⟨os, hos, hcs⟩
  unfold getItem
  try with_reducible refine wpAny_holding ?_
  first | refine wpAny_bind (wpAny_pure ?_) | skip
  refine wpAny_bind (wpAny_sequenceKey ht.typeIs (by decide) ?_)
  refine wpAny_bind (wpAny_callSpecial?_slot (name := Str.ofString "__getitem__") ht.typeIs PyProof.Rows.slot_tuple_getitem
    (wpAny_call_entry PyProof.Rows.slot_tuple_getitem ht.typeIs entry_tuple_getitem ?_ (args_tuple_getitem _ _)))
  show wpAny _ _ (Builtin.Tuple.tupleItemsOf (.ref t) >>= _) _ _ s
  refine wpAny_bind (tupleItemsOf_ ht ?_)
  refine wpAny_bind (wpAny_typeOf hTs ?_)
  rw [if_pos (by decide)]
  refine wpAny_bind (applied_rev hs pl pu ps ?_)
  have no : ¬ ((((items.size : Nat) : Int) - 1 == 0 && (-1 : Int) == 1 && items.size == items.size) = true) := by simp
  show wpAny _ _ (if (((items.size : Nat) : Int) - 1 == 0 && (-1 : Int) == 1 && items.size == items.size) = true then _ else _) _ _ s
  rw [if_neg no, pick_rev]
  first
    | exact wpAny_bind (m := Builtin.Tuple.tupleExact _) (wpAny_newObj_type (wpAny_pure ⟨_, rfl, wpAny_pure h⟩) hz)
    | exact wpAny_bind (wpAny_bind (m := Builtin.Tuple.tupleExact _) (wpAny_newObj_type (wpAny_pure (wpAny_pure ⟨_, rfl, wpAny_pure h⟩)) hz))
end
end HTm
namespace Mini
open PySem PySem.Spec PyProof.Rows L2

/-! ### x[lo:hi] -/
def cutD (xs : List PyData) (lo hi : Option Int) : List PyData := (xs.drop (HT.sIx xs.length 0 lo)).take (HT.sIx xs.length xs.length hi - HT.sIx xs.length 0 lo)
theorem cutD_length (xs : List PyData) (lo hi : Option Int) : (cutD xs lo hi).length ≤ xs.length := by
  unfold cutD
  rw [List.length_take, List.length_drop]
  omega
theorem DvA.cut {β : Bool} {Ω : AS} {H : Hp} {vs : List V} {ds : List PyData} (h : DvA β Ω H vs ds) (lo hi : Option Int) : DvA β Ω H (cutV vs lo hi) (cutD ds lo hi) := by
  unfold cutV cutD
  rw [h.length]
  exact (h.drop _).take _
def dCut (lo hi : Option Int) : PyData → Option PyData
  | .list xs => some (.list (cutD xs lo hi))
  | .tuple xs => some (.tuple (cutD xs lo hi))
  | _ => none
/-- of a tuple, its object known -/
def rCutT (β : Bool) (K : PySem.W.Frag) : V → Option Int → Option Int → Hp → VK → Prop := fun x lo hi H Q => ∃ a xs, x = .ref a ∧ SqT K H a xs ∧
  (HT.sIx xs.length 0 lo = 0 ∧ HT.sIx xs.length xs.length hi = xs.length → Q (.ref a) H) ∧ (¬ (HT.sIx xs.length 0 lo = 0 ∧ HT.sIx xs.length xs.length hi = xs.length) → MkTup β H (cutV xs lo hi) Q)
theorem sl_cutT {X : Cx} : ∀ β, SlR X (rCutT β X.K)
  | false => fun pins s σ H x v vl vu lo hi sl Q I rx hs pl pu h => sl_tupA pins s σ H x v vl vu lo hi sl Q I rx hs pl pu h
  | true => by
    intro pins s σ H x v vl vu lo hi sl Q I rx hs pl pu ⟨a, xs, ex, hx, q1, q2⟩
    by_cases hw : HT.sIx xs.length 0 lo = 0 ∧ HT.sIx xs.length xs.length hi = xs.length
    · exact sl_tupA pins s σ H x v vl vu lo hi sl Q I rx hs pl pu ⟨a, xs, ex, hx, q1, fun z => absurd hw z⟩
    · subst ex
      cases rx
      obtain ⟨its, r, ht, hz⟩ := I.tuple hx
      have hlen : its.toArray.size = xs.length := by rw [List.size_toArray]; exact r.length.symm
      refine ⟨"tuple", _, PyProof.Rows.slot_tuple_getitem.lookup, ht.typeIs, HT.getItem_tuple_cut ht hs pl pu (by rw [hlen]; exact hw) ?_ (by rw [hlen]; exact hz)⟩
      rw [hlen]
      exact ⟨.ref s.heap.objs.size, _, I.laid (t' := s.toks) (o := .frz _ (.tup (cutV xs lo hi))) (fun b ob q => Heap.get?_push_of_some _ q) (Nat.le_refl _) (obj_tup (Nat.le_trans (cutV_length xs lo hi) hz) ((r.drop _).take _) (Heap.get?_push_size _ rfl)), rfl, q2 hw _ _ (I.hok.fresh (Nat.le_refl _)) rfl⟩
/-- a slice's part -/
abbrev MO := SEnv → Drw → Option (Option Int × Drw)
def tPo (β : Bool) (m : MO) : TO := fun σ H Q => ∃ (F : Fx β) (Ω : AS) (S : SEnv) (w w' : Drw) (o : Option Int), Rel F H Ω σ S w ∧ m S w = some (o, w') ∧ ∀ H', Rel F H' Ω σ S w' → Evs F.st H H' → Q o H'
def DO (β : Bool) (X : Cx) (e : Option Expr) (m : MO) : Prop := PO X e (tPo β m)
def mNoP : MO := fun _ w => some (none, w)
def mPt (m : ME) : MO := fun S w => (m S w).bind fun p => match p.1 with
  | .int i => some (some i, p.2)
  | _ => none
def mCut (a : ME) (lo hi : MO) : ME := fun S w => (a S w).bind fun p => (lo S p.2).bind fun l => (hi S l.2).bind fun h => (dCut l.1 h.1 p.1).map fun d => (d, h.2)
def dRev : PyData → Option PyData
  | .list xs => some (.list xs.reverse)
  | .tuple xs => some (.tuple xs.reverse)
  | _ => none
def mRev (a : ME) : ME := fun S w => (a S w).bind fun p => (dRev p.1).map fun d => (d, p.2)
section
variable {β : Bool} {X : Cx} {a b c e : Expr} {es : List Expr} {pos p2 p1 p3 : Pos} {r : Strg} {ma mb mc m : ME} {lo hi : Option Expr} {ml mh : MO}
theorem po_imp {t t' : TO} {e : Option Expr} (h : PO X e t) (k : ∀ σ H Q, t' σ H Q → t σ H Q) : PO X e t' := ⟨fun pins s σ H Q I hw => h.run pins s σ H Q I (k σ H Q hw)⟩
theorem do_none : DO β X none mNoP := po_imp po_none fun σ H Q ⟨F, Ω, S, w, w', o, R, hm, q⟩ => by
  cases hm
  exact q H R (Evs.refl _ _)
theorem do_some (h : DE β .esc X e m) : DO β X (some e) (mPt m) := po_imp (po_some h) fun σ H Q ⟨F, Ω, S, w, w', o, R, hm, q⟩ => by
  unfold mPt at hm
  obtain ⟨⟨d, w1⟩, h1, hm⟩ := Option.bind_eq_some_iff.mp hm
  cases d with
  | int i =>
    cases hm
    exact ⟨F, Ω, S, w, _, .int i, R, h1, fun v H1 R1 e1 hv => ⟨i, Dv.int_inv hv, q H1 R1 e1⟩⟩
  | _ => cases hm
theorem de_slice (ha : DE β r X e m) (hl : DO β X lo ml) (hh : DO β X hi mh) : DE β .esc X (.Subscript e (.Slice lo hi none p2) pos) (mCut m ml mh) :=
  pe_imp (pe_slice (SlR.or sl_list (sl_cutT β)) ha hl hh) fun σ H Q ⟨F, Ω, S, w, w', d, R, hm, q⟩ => by
  unfold mCut at hm
  obtain ⟨⟨d0, w1⟩, h1, hm⟩ := Option.bind_eq_some_iff.mp hm
  obtain ⟨⟨l, w2⟩, h2, hm⟩ := Option.bind_eq_some_iff.mp hm
  obtain ⟨⟨h, w3⟩, h3, hm⟩ := Option.bind_eq_some_iff.mp hm
  obtain ⟨d', h4, hm⟩ := Option.map_eq_some_iff.mp hm
  cases hm
  refine ⟨F, Ω, S, w, w1, d0, R, h1, fun v H1 R1 e1 hv => ⟨F, Ω, S, w1, w2, l, R1, h2, fun H2 R2 e2 => ⟨F, Ω, S, w2, _, h, R2, h3, fun H3 R3 e3 => ?_⟩⟩⟩
  have hv3 := (hv.mono R1 e2).mono R2 e3
  have ev := (e1.trans e2).trans e3
  cases d0 with
  | list xs =>
    cases h4
    obtain ⟨p, vs, rfl, k1, k2, k3⟩ := hv3.lst_inv
    refine .inl ⟨p, vs, rfl, .of k1, fun p' hp => ?_⟩
    have hc := k3.cut l h
    obtain ⟨e4, dv⟩ := new_lst R3 hc (Nat.le_trans (cutD_length xs l h) (by rw [← k3.length]; exact k2)) hp
    exact q _ _ (R3.ex e4) (ev.trans e4.evs) dv
  | tuple xs =>
    cases h4
    have hv4 := hv3.flat rfl
    obtain ⟨p, vs, ep, k1, k2, k3⟩ := hv3.tup_inv
    refine .inr ⟨p, vs, ep, k1.seq, fun hw => ?_, fun hw => ?_⟩
    · have e0 : cutD xs l h = xs := by
        unfold cutD
        rw [← k3.length, hw.1, hw.2, List.drop_zero, Nat.sub_zero, k3.length, List.take_length]
      rw [e0] at q
      rw [← ep]
      exact q v H3 R3 ev hv4
    · exact new_tup R3 (k3.cut l h) (Nat.le_trans (cutD_length xs l h) (by rw [← k3.length]; exact k2)) fun u H4 e4 du => q u H4 (R3.ex e4) (ev.trans e4.evs) du
  | _ => cases h4
/-- x[::-1] -/
def tRevX (β : Bool) (K : PySem.W.Frag) (te : TE) : TE := fun σ H Q => te σ H fun x H1 => ∃ a xs, x = .ref a ∧ ((SqL K H1 a xs ∧ ∀ p, H1 p = none → Q (.ref p) (upd H1 p (.lst xs.reverse))) ∨ (SqT K H1 a xs ∧ MkTup β H1 xs.reverse Q))
theorem pe_revX {te : TE} {k : Nat} (he : PE X e te) : PE X (.Subscript e (.Slice none none (some (.UnaryOp .USub (.Constant (.int 1) k p1) p2)) p3) pos) (tRevX β X.K te) := by
  refine ⟨fun pins s σ H Q I h => Subscript_ (thn (he.run pins s σ H _ I h) fun v s1 ⟨x, H1, I1, r1, q1⟩ => ?_)⟩
  obtain ⟨a, xs, ex, hx⟩ := q1
  subst ex
  cases r1
  have part : PO X (some (.UnaryOp .USub (.Constant (.int 1) k p1) p2)) (tPart (tUn (rU fun i => .int (-i)) (tC (.int 1)))) := po_some (pe_un un_neg pe_int)
  refine wpAny_Slice (thn (po_none.run pins s1 σ H1 (fun o H2 => o = none ∧ H2 = H1) I1 ⟨rfl, rfl⟩) fun vl s2 ⟨l, H2, I2, pl, el, eh2⟩ => ?_)
  subst el eh2
  refine thn (po_none.run pins s2 σ H2 (fun o H3 => o = none ∧ H3 = H2) I2 ⟨rfl, rfl⟩) fun vu s3 ⟨u, H3, I3, pu, eu, eh3⟩ => ?_
  subst eu eh3
  refine thn (part.run pins s3 σ H3 (fun o H4 => o = some (-1) ∧ H4 = H3) I3 ⟨1, rfl, -1, rfl, rfl, rfl⟩) fun vs s4 ⟨o, H4, I4, ps, eo, eh4⟩ => ?_
  subst eo eh4
  have I5 : Inv X pins σ H4 { s4 with heap := s4.heap.push { cls := .type "slice", data := .fields #[vl, vu, vs] } } := I4.kept (t' := s4.toks) fun b ob q => Heap.get?_push_of_some _ q
  show wpAny (model X.prog X.w) X.A (subscriptTail e (.Slice none none (some (.UnaryOp .USub (.Constant (.int 1) k p1) p2)) p3) (.ref a) (.ref s4.heap.objs.size)) (EP X pins σ Q) X.xe { s4 with heap := s4.heap.push { cls := .type "slice", data := .fields #[vl, vu, vs] } }
  rcases hx with ⟨hx, q⟩ | ⟨hx, q⟩
  · obtain ⟨its, r, ht, hz⟩ := I5.list hx
    have hl := r.length
    refine tail_any (ops := [.ref a, .ref s4.heap.objs.size]) ht.isList.typeIs (PySem.slot_list_getitem.lookup) (wpAny_getItem_list_slice ht.isList (Heap.IsSliceOf.new _ vl vu vs) pl pu ps (by decide) ?_ (by rw [List.size_toArray]; omega)) (by with_unfolding_all rfl)
    rw [PySem.W.krv_pick]
    exact ⟨.ref _, _, I5.laid (t' := s4.toks) (o := .lst xs.reverse) (fun b ob q => Heap.get?_push_of_some _ q) (Nat.le_refl _) ⟨by rw [List.length_reverse]; exact hz, _, 0, r.reverse, Heap.get?_push_size _ rfl⟩, rfl, q _ (I5.hok.fresh (Nat.le_refl _))⟩
  · obtain ⟨its, r, ht, hz⟩ := I5.tuple hx
    have hl := r.length
    refine tail_any (ops := [.ref a, .ref s4.heap.objs.size]) ht.typeIs (PyProof.Rows.slot_tuple_getitem.lookup) (HTm.getItem_tup_rev ht (Heap.IsSliceOf.new _ vl vu vs) pl pu ps ?_ (by rw [List.size_toArray]; omega)) (by with_unfolding_all rfl)
    have hz' : xs.reverse.length ≤ sizeLine := by rw [List.length_reverse]; exact hz
    cases β with
    | false => exact ⟨.ref _, _, I5.laid (t' := s4.toks) (o := .tup xs.reverse) (fun b ob q => Heap.get?_push_of_some _ q) (Nat.le_refl _) ⟨hz', _, r.reverse, ⟨_, Heap.get?_push_size _ rfl, rfl, _, rfl⟩⟩, rfl, q _ (I5.hok.fresh (Nat.le_refl _))⟩
    | true => exact ⟨.ref _, _, I5.laid (t' := s4.toks) (o := .frz _ (.tup xs.reverse)) (fun b ob q => Heap.get?_push_of_some _ q) (Nat.le_refl _) (obj_tup hz' r.reverse (Heap.get?_push_size _ rfl)), rfl, q _ _ (I5.hok.fresh (Nat.le_refl _)) rfl⟩
theorem de_rev {k : Nat} (ha : DE β r X e m) : DE β .esc X (.Subscript e (.Slice none none (some (.UnaryOp .USub (.Constant (.int 1) k p1) p2)) p3) pos) (mRev m) :=
  pe_imp (pe_revX (β := β) ha) fun σ H Q ⟨F, Ω, S, w, w', d, R, hm, q⟩ => by
  unfold mRev at hm
  obtain ⟨⟨d0, w1⟩, h1, hm⟩ := Option.bind_eq_some_iff.mp hm
  obtain ⟨d', h4, hm⟩ := Option.map_eq_some_iff.mp hm
  cases hm
  refine ⟨F, Ω, S, w, _, d0, R, h1, fun v H1 R1 e1 hv => ?_⟩
  cases d0 with
  | list xs =>
    cases h4
    obtain ⟨p, vs, rfl, k1, k2, k3⟩ := hv.lst_inv
    refine ⟨p, vs, rfl, .inl ⟨.of k1, fun p' hp => ?_⟩⟩
    obtain ⟨e4, dv⟩ := new_lst R1 k3.reverse (by rw [List.length_reverse, ← k3.length]; exact k2) hp
    exact q _ _ (R1.ex e4) (e1.trans e4.evs) dv
  | tuple xs =>
    cases h4
    obtain ⟨p, vs, ep, k1, k2, k3⟩ := hv.tup_inv
    exact ⟨p, vs, ep, .inr ⟨k1.seq, new_tup R1 k3.reverse (by rw [List.length_reverse, ← k3.length]; exact k2) fun u H4 e4 du => q u H4 (R1.ex e4) (e1.trans e4.evs) du⟩⟩
  | _ => cases h4
/-- -e -/
def dNeg : PyData → Option PyData
  | .int i => some (.int (-i))
  | _ => none
def mNeg (a : ME) : ME := fun S w => (a S w).bind fun p => (dNeg p.1).map fun d => (d, p.2)
theorem de_neg (ha : DE β r X e m) : DE β .esc X (.UnaryOp .USub e pos) (mNeg m) := pe_imp (pe_un un_neg ha) fun σ H Q ⟨F, Ω, S, w, w', d, R, hm, q⟩ => by
  unfold mNeg at hm
  obtain ⟨⟨d0, w1⟩, h1, hm⟩ := Option.bind_eq_some_iff.mp hm
  obtain ⟨d', h4, hm⟩ := Option.map_eq_some_iff.mp hm
  cases hm
  cases d0 with
  | int i =>
    cases h4
    exact ⟨F, Ω, S, w, _, .int i, R, h1, fun v H1 R1 e1 hv => ⟨i, hv.int_inv, q _ H1 R1 e1 (.int _)⟩⟩
  | _ => cases h4
end

/-! ### a < b < c -/
def mCh2 (g g' : PyData → PyData → Option PyData) (ma mb mc : ME) : ME := fun S w => (ma S w).bind fun p => (mb S p.2).bind fun q => (g p.1 q.1).bind fun d => match d with
  | .bool true => (mc S q.2).bind fun r => (g' q.1 r.1).map fun d' => (d', r.2)
  | .bool false => some (.bool false, q.2)
  | _ => none
def mCh3 (g g' g'' : PyData → PyData → Option PyData) (ma mb mc md : ME) : ME := fun S w => (ma S w).bind fun p => (mb S p.2).bind fun q => (g p.1 q.1).bind fun d => match d with
  | .bool true => (mc S q.2).bind fun r => (g' q.1 r.1).bind fun d' => match d' with
    | .bool true => (md S r.2).bind fun t => (g'' r.1 t.1).map fun d'' => (d'', t.2)
    | .bool false => some (.bool false, r.2)
    | _ => none
  | .bool false => some (.bool false, q.2)
  | _ => none
section
variable {β : Bool} {X : Cx} {a b c d e : Expr} {pos : Pos} {ra rb rc rd : Strg} {ma mb mc md m : ME} {op op' op'' : CmpOp} {rl rl' rl'' : R2} {g g' g'' : PyData → PyData → Option PyData}
theorem ch2_imp (hg : Op2 β ra rb rl g) (hg' : Op2 β rb rc rl' g') {σ : L2.St} {H : Hp} {Q : VK} (h : tEv β .esc (mCh2 g g' ma mb mc) σ H Q) : tChain rl rl' (tEv β ra ma) (tEv β rb mb) (tEv β rc mc) σ H Q := by
  obtain ⟨F, Ω, S, w, w', d, R, hm, q⟩ := h
  unfold mCh2 at hm
  obtain ⟨⟨dx, w1⟩, h1, hm⟩ := Option.bind_eq_some_iff.mp hm
  obtain ⟨⟨dy, w2⟩, h2, hm⟩ := Option.bind_eq_some_iff.mp hm
  obtain ⟨d', h3, hm⟩ := Option.bind_eq_some_iff.mp hm
  refine ⟨F, Ω, S, w, w1, dx, R, h1, fun x H1 R1 e1 hx => ⟨F, Ω, S, w1, w2, dy, R1, h2, fun y H2 R2 e2 hy => hg F H2 Ω σ S _ x y dx dy _ _ R2 (hx.mono R1 e2) hy h3 fun v H3 e3 hv => ?_⟩⟩
  have R3 := R2.ex e3
  have ev := (e1.trans e2).trans e3.evs
  cases d' with
  | bool k =>
    refine ⟨k, Dv.bl_inv hv, ?_⟩
    cases k with
    | true =>
      dsimp only at hm
      obtain ⟨⟨dz, w3⟩, h4, hm⟩ := Option.bind_eq_some_iff.mp hm
      obtain ⟨d'', h5, hm⟩ := Option.map_eq_some_iff.mp hm
      cases hm
      refine iteT ⟨F, Ω, S, w2, _, dz, R3, h4, fun z H4 R4 e4 hz => ?_⟩
      exact hg' F H4 Ω σ S _ y z dy dz _ _ R4 ((hy.mono R2 e3.evs).mono R3 e4) hz h5 fun u H5 e5 hu => q u H5 (R4.ex e5) ((ev.trans e4).trans e5.evs) hu
    | false =>
      cases hm
      exact iteF (q (.bl false) H3 R3 ev (Dv.bl false))
  | _ => cases hm
theorem de_ch2 (ho : OpR X (compareOp op) rl) (ho' : OpR X (compareOp op') rl') (hg : Op2 β ra rb rl g) (hg' : Op2 β rb rc rl' g') (ha : DE β ra X a ma) (hb : DE β rb X b mb) (hc : DE β rc X c mc) (hm : lastMarks [op, op'] [b, c] = false := by with_unfolding_all rfl) :
    DE β .esc X (.Compare a [op, op'] [b, c] pos) (mCh2 g g' ma mb mc) := pe_imp (pe_chain ho ho' ha hb hc hm) fun _ _ _ h => ch2_imp hg hg' h
theorem dt_ch2 (ho : OpR X (compareOp op) rl) (ho' : OpR X (compareOp op') rl') (hg : Op2 β ra rb rl g) (hg' : Op2 β rb rc rl' g') (ha : DE β ra X a ma) (hb : DE β rb X b mb) (hc : DE β rc X c mc) (hm : lastMarks [op, op'] [b, c] = false := by with_unfolding_all rfl) :
    DT β X (.Compare a [op, op'] [b, c] pos) (mB (mCh2 g g' ma mb mc)) := pt_imp (pt_chain ho ho' ha hb hc hm) fun σ H Q h => by
  obtain ⟨F, Ω, S, w, w', d, R, hm, q⟩ := tB_imp h
  exact ch2_imp hg hg' ⟨F, Ω, S, w, w', d, R, hm, q⟩
/-- three links, as a test -/
def tChain3 (r r' r'' : R2) (ta tb tc td : TE) : TT := fun σ H Q => ta σ H fun x H1 => tb σ H1 fun y H2 => r x y H2 fun z H3 => ∃ k, z = .bl k ∧ (if k = true then tc σ H3 fun u H4 => r' y u H4 fun z' H5 => ∃ k', z' = .bl k' ∧
  (if k' = true then td σ H5 fun t H6 => r'' u t H6 fun z'' H7 => ∃ k'', z'' = .bl k'' ∧ Q k'' H7 else Q false H5) else Q false H3)
theorem pt_chain3 {ta tb tc td : TE} (ho : OpR X (compareOp op) rl) (ho' : OpR X (compareOp op') rl') (ho'' : OpR X (compareOp op'') rl'') (ha : PE X a ta) (hb : PE X b tb) (hc : PE X c tc) (hd : PE X d td)
    (hm : lastMarks [op, op', op''] [b, c, d] = false := by with_unfolding_all rfl) : PT X (.Compare a [op, op', op''] [b, c, d] pos) (tChain3 rl rl' rl'' ta tb tc td) := by
  refine ⟨fun pins s σ H Q I h => isTrue_chain (thn (ha.run pins s σ H _ I h) fun v1 s1 ⟨x1, H1, I1, r1, q1⟩ => test_link (thn (hb.run pins s1 σ H1 _ I1 q1) fun v2 s2 ⟨x2, H2, I2, r2, q2⟩ =>
    thn (ho pins s2 σ H2 x1 x2 v1 v2 _ I2 r1 r2 q2) fun d1 s3 ⟨z1, H3, I3, r3, k1, e1, q3⟩ => ?_)) hm⟩
  subst e1
  cases r3
  refine wpAny_truthy_bool ?_
  cases k1 with
  | false => exact ite_ff ⟨H3, I3, q3⟩
  | true =>
    refine ite_tt (test_link (thn (hc.run pins s3 σ H3 _ I3 q3) fun v4 s4 ⟨x4, H4, I4, r4, q4⟩ => thn (ho' pins s4 σ H4 x2 x4 v2 v4 _ I4 r2 r4 q4) fun d2 s5 ⟨z2, H5, I5, r5, k2, e2, q5⟩ => ?_))
    subst e2
    cases r5
    refine wpAny_truthy_bool ?_
    cases k2 with
    | false => exact ite_ff ⟨H5, I5, q5⟩
    | true =>
      refine ite_tt (test_last (thn (hd.run pins s5 σ H5 _ I5 q5) fun v6 s6 ⟨x6, H6, I6, r6, q6⟩ => thn (ho'' pins s6 σ H6 x4 x6 v4 v6 _ I6 r4 r6 q6) fun d3 s7 ⟨z3, H7, I7, r7, k3, e3, q7⟩ => ?_))
      subst e3
      cases r7
      exact wpAny_truthy_bool ⟨H7, I7, q7⟩
theorem dt_ch3 (ho : OpR X (compareOp op) rl) (ho' : OpR X (compareOp op') rl') (ho'' : OpR X (compareOp op'') rl'') (hg : Op2 β ra rb rl g) (hg' : Op2 β rb rc rl' g') (hg'' : Op2 β rc rd rl'' g'') (ha : DE β ra X a ma) (hb : DE β rb X b mb) (hc : DE β rc X c mc) (hd : DE β rd X d md)
    (hm : lastMarks [op, op', op''] [b, c, d] = false := by with_unfolding_all rfl) : DT β X (.Compare a [op, op', op''] [b, c, d] pos) (mB (mCh3 g g' g'' ma mb mc md)) := pt_imp (pt_chain3 ho ho' ho'' ha hb hc hd hm) fun σ H Q ⟨F, Ω, S, w, w', k, R, hmm, q⟩ => by
  unfold mB mCh3 at hmm
  obtain ⟨⟨df, wf⟩, hf, hk⟩ := Option.bind_eq_some_iff.mp hmm
  obtain ⟨⟨dx, w1⟩, h1, hf⟩ := Option.bind_eq_some_iff.mp hf
  obtain ⟨⟨dy, w2⟩, h2, hf⟩ := Option.bind_eq_some_iff.mp hf
  obtain ⟨d1, h3, hf⟩ := Option.bind_eq_some_iff.mp hf
  refine ⟨F, Ω, S, w, w1, dx, R, h1, fun x H1 R1 e1 hx => ⟨F, Ω, S, w1, w2, dy, R1, h2, fun y H2 R2 e2 hy => hg F H2 Ω σ S _ x y dx dy _ _ R2 (hx.mono R1 e2) hy h3 fun z H3 e3 hz => ?_⟩⟩
  have R3 := R2.ex e3
  have ev3 := (e1.trans e2).trans e3.evs
  cases d1 with
  | bool b1 =>
    refine ⟨b1, Dv.bl_inv hz, ?_⟩
    cases b1 with
    | false =>
      cases hf
      cases hk
      exact iteF (q H3 R3 ev3)
    | true =>
      dsimp only at hf
      obtain ⟨⟨dz, w3⟩, h4, hf⟩ := Option.bind_eq_some_iff.mp hf
      obtain ⟨d2, h5, hf⟩ := Option.bind_eq_some_iff.mp hf
      refine iteT ⟨F, Ω, S, w2, w3, dz, R3, h4, fun u H4 R4 e4 hu => hg' F H4 Ω σ S _ y u dy dz _ _ R4 ((hy.mono R2 e3.evs).mono R3 e4) hu h5 fun z5 H5 e5 hz5 => ?_⟩
      have R5 := R4.ex e5
      have ev5 := (ev3.trans e4).trans e5.evs
      cases d2 with
      | bool b2 =>
        refine ⟨b2, Dv.bl_inv hz5, ?_⟩
        cases b2 with
        | false =>
          cases hf
          cases hk
          exact iteF (q H5 R5 ev5)
        | true =>
          dsimp only at hf
          obtain ⟨⟨dt, w4⟩, h6, hf⟩ := Option.bind_eq_some_iff.mp hf
          obtain ⟨d3, h7, hf⟩ := Option.map_eq_some_iff.mp hf
          cases hf
          refine iteT ⟨F, Ω, S, w3, _, dt, R5, h6, fun t H6 R6 e6 ht => hg'' F H6 Ω σ S _ u t dz dt _ _ R6 ((hu.mono R4 e5.evs).mono R5 e6) ht h7 fun z7 H7 e7 hz7 => ?_⟩
          cases df with
          | bool b3 =>
            cases hk
            exact ⟨_, Dv.bl_inv hz7, q H7 (R6.ex e7) ((ev5.trans e6).trans e7.evs)⟩
          | _ => cases hk
      | _ => cases hf
  | _ => cases hf
end
end Mini

set_option Elab.async false
set_option linter.all false
set_option maxRecDepth 100000
set_option maxHeartbeats 4000000
/-! Mini J: the draws' state. -/
namespace Mini
open PySem PySem.Spec PyProof.Rows L2

def drwGet (w : Drw) : Nat → Option Int
  | 1 => some w.at_
  | 2 => some w.cur
  | 3 => some w.left
  | 4 => some w.seed
  | 5 => some w.cnt
  | _ => none
def drwSet (w : Drw) (k : Nat) (z : Int) : Option Drw := match k with
  | 1 => if 0 ≤ z ∧ z ≤ 63 then some { w with at_ := z } else none
  | 2 => if 0 ≤ z ∧ (z ≤ w.cur ∨ z ∈ w.cells) then some { w with cur := z } else none
  | 3 => if 0 ≤ z ∧ z ≤ 60 then some { w with left := z } else none
  | 4 => if 0 ≤ z ∧ z < 2147483647 then some { w with seed := z } else none
  | 5 => if 0 ≤ z ∧ z < 2 ^ 62 then some { w with cnt := z } else none
  | _ => none
def stV (c : Addr) (w : Drw) : List V := [.ref c, .int w.at_, .int w.cur, .int w.left, .int w.seed, .int w.cnt]
theorem drwGet_at {c : Addr} {w : Drw} {k : Nat} {z : Int} (h : drwGet w k = some z) : atI (stV c w) (k : Int) = some (.int z) := by
  match k, h with
  | 1, h => cases h; rfl
  | 2, h => cases h; rfl
  | 3, h => cases h; rfl
  | 4, h => cases h; rfl
  | 5, h => cases h; rfl
theorem drwSet_set {c : Addr} {w w' : Drw} {k : Nat} {z : Int} (h : drwSet w k z = some w') : ixN (stV c w).length (k : Int) = some k ∧ (stV c w).set k (.int z) = stV c w' ∧ w'.cells = w.cells := by
  match k, h with
  | 1, h => obtain ⟨_, rfl⟩ := ite_some h; exact ⟨rfl, rfl, rfl⟩
  | 2, h => obtain ⟨_, rfl⟩ := ite_some h; exact ⟨rfl, rfl, rfl⟩
  | 3, h => obtain ⟨_, rfl⟩ := ite_some h; exact ⟨rfl, rfl, rfl⟩
  | 4, h => obtain ⟨_, rfl⟩ := ite_some h; exact ⟨rfl, rfl, rfl⟩
  | 5, h => obtain ⟨_, rfl⟩ := ite_some h; exact ⟨rfl, rfl, rfl⟩
theorem drwSet_ok {w w' : Drw} {k : Nat} {z : Int} (h : drwSet w k z = some w') (o : w.Ok) : w'.Ok := by
  match k, h with
  | 1, h => obtain ⟨c, rfl⟩ := ite_some h; exact { o with at0 := c.1, at1 := c.2 }
  | 2, h =>
    obtain ⟨c, rfl⟩ := ite_some h
    refine { o with cur0 := c.1, cur1 := ?_ }
    rcases c.2 with q | q
    · have a := o.cur0
      have b := o.cur1
      show z.natAbs < _
      exact Nat.lt_of_le_of_lt (by omega) b
    · exact (o.big z q).2
  | 3, h => obtain ⟨c, rfl⟩ := ite_some h; exact { o with left0 := c.1, left1 := c.2 }
  | 4, h => obtain ⟨c, rfl⟩ := ite_some h; exact { o with seed0 := c.1, seed1 := c.2 }
  | 5, h => obtain ⟨c, rfl⟩ := ite_some h; exact { o with cnt0 := c.1, cnt1 := c.2 }
section
variable {β : Bool} {F : Fx β} {H : Hp} {Ω : AS} {σ : L2.St} {S : SEnv} {w w' : Drw} {i : Nat}
theorem Rel.state (R : Rel F H Ω σ S w) (hi : S[i]? = some .stt) : ∃ s, F.st = some s ∧ σ[i]? = some (some (.ref s)) ∧ H s = some (.lst (stV F.cl w)) ∧ H F.cl = some (.lst (w.cells.map V.int)) ∧ F.cl ≠ s ∧ w.Ok ∧ F.Ψ s ∧ F.Ψ F.cl := by
  obtain ⟨s, s1, s2⟩ := R.slot i _ hi
  have k := R.wok
  rw [s1] at k
  exact ⟨s, s1, s2, k.2.2.2.1, k.2.2.2.2.1, k.2.2.1, k.2.2.2.2.2, k.1, k.2.1⟩
theorem gst {k : Nat} {z : Int} {Q : L2.St → Hp → Prop} (R : Rel F H Ω σ S w) (hi : S[i]? = some .stt) (hs : drwSet w k z = some w') (q : ∀ H', Rel F H' Ω σ S w' → Evs F.st H H' → Q σ H') : gSub (tVar i) (tC (.int (k : Int))) rSetL (.int z) σ H Q := by
  obtain ⟨s, s1, s2, s3, s4, s5, s6, s7, s8⟩ := R.state hi
  obtain ⟨k1, k2, k3⟩ := drwSet_set (c := F.cl) hs
  refine ⟨.ref s, s2, s, _, (k : Int), k, rfl, rfl, s3, k1, ?_⟩
  rw [k2]
  have ev : Evs F.st H (upd H s (.lst (stV F.cl w'))) := fun a o h n => by
    rw [upd_ne (fun z => n (by rw [z]; exact s1))]
    exact h
  refine q _ (R.evs ev ?_) ev
  rw [s1]
  exact ⟨s7, s8, s5, upd_same, by rw [upd_ne s5, k3]; exact s4, drwSet_ok hs s6⟩
end
def mSt (i k : Nat) : ME := fun S w => match S[i]? with
  | some .stt => (drwGet w k).map fun z => (.int z, w)
  | _ => none
def mStLen (i : Nat) : ME := fun S w => match S[i]? with
  | some .stt => some (.int w.cells.length, w)
  | _ => none
def mStCell (i : Nat) (m : ME) : ME := fun S w => match S[i]? with
  | some .stt => (m S w).bind fun q => match q.1 with
    | .int n => (atI q.2.cells n).map fun z => (.int z, q.2)
    | _ => none
  | _ => none
def sSt (i k : Nat) (m : ME) : MS := fun S w => match S[i]? with
  | some .stt => (m S w).bind fun q => match q.1 with
    | .int z => (drwSet q.2 k z).map fun w2 => (.nx, S, w2)
    | _ => none
  | _ => none
def sSt3 (i k1 k2 k3 : Nat) (m : MA) : MS := fun S w => match S[i]? with
  | some .stt => (m S w).bind fun q => match q.1 with
    | [.int a, .int b, .int c] => (drwSet q.2 k1 a).bind fun w1 => (drwSet w1 k2 b).bind fun w2 => (drwSet w2 k3 c).map fun w3 => (.nx, S, w3)
    | _ => none
  | _ => none
section
variable {β : Bool} {X : Cx} {e : Expr} {y x : Str} {i k : Nat} {j : Nat} {pos p1 p2 p3 p4 p5 p6 p7 p8 p9 p10 : Pos} {m : ME} {mr : MA}
theorem de_st (hv : PE X (.Name y p1) (tVar i)) : DE β .esc X (.Subscript (.Name y p1) (.Constant (.int (k : Int)) j p2) pos) (mSt i k) := pe_imp (pe_ix ixr hv pe_int (by exact fun _ _ => rfl)) fun σ H Q ⟨F, Ω, S, w, w', d, R, hm, q⟩ => by
  unfold mSt at hm
  split at hm
  · rename_i hi
    obtain ⟨z, h1, hm⟩ := Option.map_eq_some_iff.mp hm
    cases hm
    obtain ⟨s, s1, s2, s3, s4, s5, s6, s7, s8⟩ := R.state hi
    exact ⟨.ref s, s2, .inl ⟨s, _, _, _, rfl, rfl, .of s3, drwGet_at h1, q _ H R (Evs.refl _ _) (Dv.int z)⟩⟩
  · cases hm
theorem pe_stc (hv : PE X (.Name y p1) (tVar i)) : PE X (.Subscript (.Name y p1) (.Constant (.int 0) j p2) pos) (fun σ H Q => ∃ (F : Fx β) (Ω : AS) (S : SEnv) (w : Drw), Rel F H Ω σ S w ∧ S[i]? = some .stt ∧ Q (.ref F.cl) H) := pe_imp (pe_ix ixr hv pe_int (by exact fun _ _ => rfl)) fun σ H Q ⟨F, Ω, S, w, R, hi, q⟩ => by
  obtain ⟨s, s1, s2, s3, s4, s5, s6, s7, s8⟩ := R.state hi
  exact ⟨.ref s, s2, .inl ⟨s, _, _, _, rfl, rfl, .of s3, rfl, q⟩⟩
theorem de_stLen (hv : PE X (.Name y p1) (tVar i)) (hg : Gl X "len") (hm : X.mg "len" = none) : DE β .esc X (.Call (.Name "len" p3) [.Subscript (.Name y p1) (.Constant (.int 0) j p2) p4] [] pos) (mStLen i) :=
  pe_imp (pe_callB call_len_seq hg hm PySem.boot_len (pa_cons (pe_stc (β := β) hv) pa_nil)) fun σ H Q ⟨F, Ω, S, w, w', d, R, hm, q⟩ => by
  unfold mStLen at hm
  split at hm
  · rename_i hi
    cases hm
    obtain ⟨s, s1, s2, s3, s4, s5, s6, s7, s8⟩ := R.state hi
    refine ⟨F, Ω, S, _, R, hi, F.cl, _, rfl, .inl (.of s4), ?_⟩
    rw [List.length_map]
    exact q _ H R (Evs.refl _ _) (Dv.int _)
  · cases hm
theorem de_stCell (hv : PE X (.Name y p1) (tVar i)) (he : DE β .esc X e m) (hp : PlainIx e := by exact fun _ _ => rfl) : DE β .esc X (.Subscript (.Subscript (.Name y p1) (.Constant (.int 0) j p2) p4) e pos) (mStCell i m) :=
  pe_imp (pe_ix ixr (pe_stc (β := β) hv) he hp) fun σ H Q ⟨F, Ω, S, w, w', d, R, hm, q⟩ => by
  unfold mStCell at hm
  split at hm
  · rename_i hi
    obtain ⟨⟨n, w1⟩, h1, hm⟩ := Option.bind_eq_some_iff.mp hm
    cases n with
    | int n =>
      obtain ⟨z, h2, hm⟩ := Option.map_eq_some_iff.mp hm
      cases hm
      refine ⟨F, Ω, S, w, R, hi, F, Ω, S, w, _, .int n, R, h1, fun v H1 R1 e1 hv => ?_⟩
      obtain ⟨s, s1, s2, s3, s4, s5, s6, s7, s8⟩ := R1.state hi
      refine .inl ⟨F.cl, _, n, .int z, rfl, Dv.int_inv hv, .of s4, ?_, q _ H1 R1 e1 (Dv.int z)⟩
      unfold atI at h2 ⊢
      rw [List.length_map]
      cases hx : ixN w1.cells.length n with
      | none => rw [hx] at h2; cases h2
      | some jj =>
        rw [hx] at h2
        rw [Option.bind_some, List.getElem?_map, show w1.cells[jj]? = some z from h2]
        rfl
    | _ => cases hm
  · cases hm
theorem ds_st (hv : PE X (.Name y p1) (tVar i)) (he : DE β .esc X e m)
    (ha : ∀ v, assign (.Subscript (.Name y p1) (.Constant (.int (k : Int)) j p2) p3) X.env v = (do
      let ov ← holding [v] (eval (.Name y p1) X.env)
      let iv ← holding [v, ov] (eval (.Constant (.int (k : Int)) j p2) X.env)
      standAt p3
      holding [v, ov, iv] (setItem ov iv v)
      release [v, ov, iv] []) := by intro _; rfl) (hs : swapsWithSole [.Subscript (.Name y p1) (.Constant (.int (k : Int)) j p2) p3] e pos.line X.env = pure false := by rfl) (hw : swappedStores [.Subscript (.Name y p1) (.Constant (.int (k : Int)) j p2) p3] e X.env = pure none := by rfl)
    (h1 : (assignEach [.Subscript (.Name y p1) (.Constant (.int (k : Int)) j p2) p3] X.env).map (·.2) = [assign (.Subscript (.Name y p1) (.Constant (.int (k : Int)) j p2) p3) X.env] := by rfl) :
    DS β X (.Assign [.Subscript (.Name y p1) (.Constant (.int (k : Int)) j p2) p3] e pos) (sSt i k m) := ps_imp (ps_asg he (pg_sub hv pe_int set_list ha) hs hw h1) fun D σ H ⟨F, Ω, S, w, fl, S', w', R, hm, q⟩ => by
  unfold sSt at hm
  split at hm
  · rename_i hi
    obtain ⟨⟨d, w1⟩, h1, hm⟩ := Option.bind_eq_some_iff.mp hm
    cases d with
    | int z =>
      obtain ⟨w2, h2, hm⟩ := Option.map_eq_some_iff.mp hm
      cases hm
      refine ⟨F, Ω, S, w, w1, .int z, R, h1, fun v H1 R1 e1 hv => ?_⟩
      rw [Dv.int_inv hv]
      exact gst R1 hi h2 fun H2 R2 e2 => q σ H2 Ω R2 ((R.grow e1).trans (R1.grow e2))
    | _ => cases hm
  · cases hm
/-- state[a], state[b], state[c] = (.., .., ..) -/
theorem ds_st3 {k1 k2 k3 j1 j2 j3 kt k0 : Nat} {q1 q2 q3 q4 q5 q6 q7 q8 q9 qt qe : Pos} {es : List Expr} (hc : X.calm = true) (v1 : PE X (.Name y q1) (tVar i)) (v2 : PE X (.Name y q4) (tVar i)) (v3 : PE X (.Name y q7) (tVar i)) (he : DA β .esc X es mr)
    (a1 : ∀ v, assign (.Subscript (.Name y q1) (.Constant (.int (k1 : Int)) j1 q2) q3) X.env v = (do
      let ov ← holding [v] (eval (.Name y q1) X.env)
      let iv ← holding [v, ov] (eval (.Constant (.int (k1 : Int)) j1 q2) X.env)
      standAt q3
      holding [v, ov, iv] (setItem ov iv v)
      release [v, ov, iv] []) := by intro _; rfl)
    (a2 : ∀ v, assign (.Subscript (.Name y q4) (.Constant (.int (k2 : Int)) j2 q5) q6) X.env v = (do
      let ov ← holding [v] (eval (.Name y q4) X.env)
      let iv ← holding [v, ov] (eval (.Constant (.int (k2 : Int)) j2 q5) X.env)
      standAt q6
      holding [v, ov, iv] (setItem ov iv v)
      release [v, ov, iv] []) := by intro _; rfl)
    (a3 : ∀ v, assign (.Subscript (.Name y q7) (.Constant (.int (k3 : Int)) j3 q8) q9) X.env v = (do
      let ov ← holding [v] (eval (.Name y q7) X.env)
      let iv ← holding [v, ov] (eval (.Constant (.int (k3 : Int)) j3 q8) X.env)
      standAt q9
      holding [v, ov, iv] (setItem ov iv v)
      release [v, ov, iv] []) := by intro _; rfl)
    (c1 : (assignEach [.Subscript (.Name y q1) (.Constant (.int (k1 : Int)) j1 q2) q3, .Subscript (.Name y q4) (.Constant (.int (k2 : Int)) j2 q5) q6, .Subscript (.Name y q7) (.Constant (.int (k3 : Int)) j3 q8) q9] X.env).map (·.2) =
      assign (.Subscript (.Name y q1) (.Constant (.int (k1 : Int)) j1 q2) q3) X.env :: (assignEach [.Subscript (.Name y q4) (.Constant (.int (k2 : Int)) j2 q5) q6, .Subscript (.Name y q7) (.Constant (.int (k3 : Int)) j3 q8) q9] X.env).map (·.2) := by rfl)
    (c2 : (assignEach [.Subscript (.Name y q4) (.Constant (.int (k2 : Int)) j2 q5) q6, .Subscript (.Name y q7) (.Constant (.int (k3 : Int)) j3 q8) q9] X.env).map (·.2) =
      assign (.Subscript (.Name y q4) (.Constant (.int (k2 : Int)) j2 q5) q6) X.env :: (assignEach [.Subscript (.Name y q7) (.Constant (.int (k3 : Int)) j3 q8) q9] X.env).map (·.2) := by rfl)
    (c3 : (assignEach [.Subscript (.Name y q7) (.Constant (.int (k3 : Int)) j3 q8) q9] X.env).map (·.2) = assign (.Subscript (.Name y q7) (.Constant (.int (k3 : Int)) j3 q8) q9) X.env :: (assignEach [] X.env).map (·.2) := by rfl)
    (hn : (assignEach [.Subscript (.Name y q1) (.Constant (.int (k1 : Int)) j1 q2) q3, .Subscript (.Name y q4) (.Constant (.int (k2 : Int)) j2 q5) q6, .Subscript (.Name y q7) (.Constant (.int (k3 : Int)) j3 q8) q9] X.env).length = 3 := by rfl)
    (hst : (assignEach [.Subscript (.Name y q1) (.Constant (.int (k1 : Int)) j1 q2) q3, .Subscript (.Name y q4) (.Constant (.int (k2 : Int)) j2 q5) q6, .Subscript (.Name y q7) (.Constant (.int (k3 : Int)) j3 q8) q9] X.env).findIdx? (·.1) = none := by rfl)
    (hs : swapsWithSole [.Tuple [.Subscript (.Name y q1) (.Constant (.int (k1 : Int)) j1 q2) q3, .Subscript (.Name y q4) (.Constant (.int (k2 : Int)) j2 q5) q6, .Subscript (.Name y q7) (.Constant (.int (k3 : Int)) j3 q8) q9] kt qt] (.Tuple es k0 qe) pos.line X.env = pure false := by rfl)
    (hw : swappedStores [.Tuple [.Subscript (.Name y q1) (.Constant (.int (k1 : Int)) j1 q2) q3, .Subscript (.Name y q4) (.Constant (.int (k2 : Int)) j2 q5) q6, .Subscript (.Name y q7) (.Constant (.int (k3 : Int)) j3 q8) q9] kt qt] (.Tuple es k0 qe) X.env = pure none := by rfl)
    (h1 : (assignEach [.Tuple [.Subscript (.Name y q1) (.Constant (.int (k1 : Int)) j1 q2) q3, .Subscript (.Name y q4) (.Constant (.int (k2 : Int)) j2 q5) q6, .Subscript (.Name y q7) (.Constant (.int (k3 : Int)) j3 q8) q9] kt qt] X.env).map (·.2) =
      [assign (.Tuple [.Subscript (.Name y q1) (.Constant (.int (k1 : Int)) j1 q2) q3, .Subscript (.Name y q4) (.Constant (.int (k2 : Int)) j2 q5) q6, .Subscript (.Name y q7) (.Constant (.int (k3 : Int)) j3 q8) q9] kt qt) X.env] := by rfl) :
    DS β X (.Assign [.Tuple [.Subscript (.Name y q1) (.Constant (.int (k1 : Int)) j1 q2) q3, .Subscript (.Name y q4) (.Constant (.int (k2 : Int)) j2 q5) q6, .Subscript (.Name y q7) (.Constant (.int (k3 : Int)) j3 q8) q9] kt qt] (.Tuple es k0 qe) pos) (sSt3 i k1 k2 k3 mr) :=
  ps_imp (ps_asg (pe_tup he) (pg_tup hc (pgs_cons (pg_sub v1 pe_int set_list a1) (pgs_cons (pg_sub v2 pe_int set_list a2) (pgs_cons (pg_sub v3 pe_int set_list a3) pgs_nil c3) c2) c1) hn hst) hs hw h1) fun D σ H ⟨F, Ω, S, w, fl, S', w', R, hm, q⟩ => by
  unfold sSt3 at hm
  split at hm
  · rename_i hi
    obtain ⟨⟨ds, w1⟩, h1, hm⟩ := Option.bind_eq_some_iff.mp hm
    match ds, h1, hm with
    | [.int a, .int b, .int c], h1, hm =>
      obtain ⟨u1, g1, hm⟩ := Option.bind_eq_some_iff.mp hm
      obtain ⟨u2, g2, hm⟩ := Option.bind_eq_some_iff.mp hm
      obtain ⟨u3, g3, hm⟩ := Option.map_eq_some_iff.mp hm
      cases hm
      refine ⟨F, Ω, S, w, w1, _, R, h1, fun vs H1 R1 e1 hv => ⟨by rw [hv.dv.length]; exact LB_line (show 3 ≤ LB by decide), fun p hp => ?_⟩⟩
      cases hv with
      | cons va t =>
        obtain ⟨vb, vc, rfl, hb, hc⟩ := t.two
        rw [Dv.int_inv va, Dv.int_inv hb, Dv.int_inv hc] at *
        have ex : Ext H1 (upd H1 p (.tup [.int a, .int b, .int c])) := .new hp
        refine ⟨p, _, rfl, .inl (.inl upd_same), rfl, .int a, _, rfl, gst (R1.ex ex) hi g1 fun H2 R2 e2 => ⟨.int b, _, rfl, gst R2 hi g2 fun H3 R3 e3 => ⟨.int c, _, rfl, gst R3 hi g3 fun H4 R4 e4 => ⟨rfl, ?_⟩⟩⟩⟩
        exact q σ H4 Ω R4 (R.grow ((((e1.trans ex.evs).trans e2).trans e3).trans e4))
  · cases hm
end
end Mini

set_option Elab.async false
set_option linter.all false
set_option maxRecDepth 100000
set_option maxHeartbeats 4000000
set_option exponentiation.threshold 10000
/-! Mini K: repr, the defs that all laws share, the law's own def. -/
namespace Mini
open PySem PySem.Spec PyProof.Rows L2

/-! ### repr -/
mutual
def wt : PyData → Nat
  | .none => 4
  | .bool _ => 5
  | .int _ => 1921
  | .str x => (reprText x).length
  | .list xs => 2 + wtA xs
  | .tuple xs => 3 + wtA xs
  | .dict _ => 0
def wtA : List PyData → Nat
  | [] => 0
  | x :: xs => wt x + 2 + wtA xs
end
theorem textFrom_le : ∀ (ts : List Str) (k : Nat) (acc : Str), (textFrom k acc ts).length ≤ acc.length + piled ts
  | [], k, acc => Nat.le_add_right _ _
  | t :: r, k, acc => by
    have h := textFrom_le r (k + 1) (acc ++ (if k > 0 then ", " else "" : String) ++ t)
    have e : (acc ++ (if k > 0 then ", " else "" : String) ++ t).length = acc.length + (if k > 0 then 2 else 0) + t.length := by
      rw [strLen_append, strLen_append]
      split <;> rfl
    rw [e] at h
    show (textFrom (k + 1) _ r).length ≤ acc.length + ((t.length + 2) + (r.map fun t => t.length + 2).sum)
    have d : (if k > 0 then 2 else 0 : Nat) ≤ 2 := by split <;> omega
    unfold piled at h
    omega
mutual
theorem shown_le : ∀ (n : Nat) (d : PyData), shp n d = true → d.showable = true → d.shown.length ≤ wt d
  | _, .none, _, _ => by simp only [PyData.shown, wt]; decide
  | _, .bool b, _, _ => by simp only [PyData.shown, wt]; cases b <;> decide
  | _, .int i, _, h => by
    simp only [PyData.showable, decide_eq_true_eq] at h
    simp only [PyData.shown, wt]
    have e := int_text_length_le (k := 1920) (by decide) h
    show (Str.ofString (toString i)).length ≤ 1921
    rw [PySem.ofString_length]
    exact e
  | _, .str x, _, _ => by simp only [PyData.shown, wt]; exact Nat.le_refl _
  | n, .list xs, hs, h => by
    cases n with
    | zero => simp [shp] at hs
    | succ n =>
      simp only [PyData.showable] at h
      simp only [PyData.shown, wt]
      have k := shownA_le n xs (by simpa [shp] using hs) h
      unfold listText
      have t := textFrom_le (PyData.shownAll xs) 0 ("[" : Str)
      have e : (textFrom 0 "[" (PyData.shownAll xs) ++ ("]" : Str)).length = (textFrom 0 "[" (PyData.shownAll xs)).length + 1 := strLen_append _ _
      have e1 : ("[" : Str).length = 1 := by decide
      rw [e]
      rw [e1] at t
      omega
  | n, .tuple xs, hs, h => by
    cases n with
    | zero => simp [shp] at hs
    | succ n =>
      simp only [PyData.showable] at h
      simp only [PyData.shown, wt]
      have k := shownA_le n xs (by simpa [shp] using hs) h
      unfold tupleText
      rw [strLen_append, strLen_append]
      have e1 : ("(" : Str).length = 1 := by decide
      have e2 : ((if (PyData.shownAll xs).length == 1 then ",)" else ")" : String) : Str).length ≤ 2 := by split <;> decide
      rw [e1]
      by_cases z : PyData.shownAll xs = []
      · rw [z]
        have e3 : (Str.join ", " ([] : List Str)).length = 0 := by decide
        rw [e3]
        rw [z] at e2
        omega
      · have j := join_length_add _ z
        omega
  | n, .dict ps, hs, h => by cases n <;> simp [shp] at hs
theorem shownA_le : ∀ (n : Nat) (xs : List PyData), xs.all (shp n) = true → PyData.showableAll xs = true → piled (PyData.shownAll xs) ≤ wtA xs
  | _, [], _, _ => by simp [PyData.shownAll, piled, wtA]
  | n, x :: xs, hs, h => by
    rw [List.all_cons, Bool.and_eq_true] at hs
    simp only [PyData.showableAll, Bool.and_eq_true] at h
    have a := shown_le n x hs.1 h.1
    have b := shownA_le n xs hs.2 h.2
    simp only [PyData.shownAll, wtA]
    show ((PyData.shown x).length + 2) + ((PyData.shownAll xs).map fun t => t.length + 2).sum ≤ _
    unfold piled at b
    omega
end
theorem shp_noDict : ∀ (n : Nat) (d : PyData), shp n d = true → d.hasDict = false
  | _, .none, _ => by simp only [PyData.hasDict]
  | _, .bool b, _ => by simp only [PyData.hasDict]
  | _, .int i, _ => by simp only [PyData.hasDict]
  | _, .str x, _ => by simp only [PyData.hasDict]
  | n, .list xs, hs => by
    cases n with
    | zero => simp [shp] at hs
    | succ n =>
      simp only [PyData.hasDict]
      have k : ∀ ys : List PyData, ys.all (shp n) = true → PyData.hasDictAll ys = false := fun ys => by
        induction ys with
        | nil => intro _; rfl
        | cons y ys ih =>
          intro q
          rw [List.all_cons, Bool.and_eq_true] at q
          simp only [PyData.hasDictAll, shp_noDict n y q.1, ih q.2, Bool.or_self]
      exact k xs (by simpa [shp] using hs)
  | n, .tuple xs, hs => by
    cases n with
    | zero => simp [shp] at hs
    | succ n =>
      simp only [PyData.hasDict]
      have k : ∀ ys : List PyData, ys.all (shp n) = true → PyData.hasDictAll ys = false := fun ys => by
        induction ys with
        | nil => intro _; rfl
        | cons y ys ih =>
          intro q
          rw [List.all_cons, Bool.and_eq_true] at q
          simp only [PyData.hasDictAll, shp_noDict n y q.1, ih q.2, Bool.or_self]
      exact k xs (by simpa [shp] using hs)
  | n, .dict ps, hs => by cases n <;> simp [shp] at hs
def okShow (d : PyData) : Bool := shp 8 d && d.showable && decide (wt d ≤ 16000000)
def rReprD (K : PySem.W.Frag) : List V → Hp → VK → Prop := fun xs H Q => ∃ x d, xs = [x] ∧ Dp K H x d ∧ okShow d = true ∧ Q (.str d.shown) H
theorem call_reprD {X : Cx} (hg : X.A.guards = some []) (hu : X.A.units + 64 < cLine) : CallR X (.builtin "repr") (rReprD X.K) := by
  intro pins s σ H xs us Q I r ⟨x, d, ex, hd, ok, q⟩
  subst ex
  obtain ⟨u, rfl, ru⟩ := vals1 r
  unfold okShow at ok
  rw [Bool.and_eq_true, Bool.and_eq_true, decide_eq_true_eq] at ok
  obtain ⟨⟨k1, k2⟩, k3⟩ := ok
  have k4 := Nat.le_trans (shown_le 8 d k1 k2) k3
  obtain ⟨_, k5⟩ := shp_plain 8 d k1
  obtain ⟨as, rd⟩ := Dp.reads I d x u hd ru
  have nd := shp_noDict 8 d k1
  cases rd with
  | none => exact PySem.P.repr_of_none ⟨.str _, H, I.tok _, ⟨_, rfl⟩, by simpa only [PyData.shown] using q⟩
  | bool b => exact PySem.P.repr_of_bool ⟨.str _, H, I.tok _, ⟨_, rfl⟩, by simpa only [PyData.shown] using q⟩
  | int i t => exact PySem.P.repr_of_int (by simpa only [PyData.showable, decide_eq_true_eq] using k2) ⟨.str _, H, I.tok _, ⟨_, rfl⟩, by simpa only [PyData.shown] using q⟩
  | str x t => exact PySem.P.repr_of_str ⟨.str _, H, I.tok _, ⟨_, rfl⟩, by simpa only [PyData.shown] using q⟩ (by
      simp only [PyData.shown] at k4
      exact Nat.le_trans k4 (by rw [sizeLine_eq]; decide))
  | list h1 h2 h3 h4 => exact repr_of_reads' (.list h1 h2 h3 h4) k2 (fun z => by rw [nd] at z; cases z) hg (by omega) (fun b o e => e) (fun h' u tk hk => ⟨.str _, H, I.kept hk, ⟨_, rfl⟩, q⟩) (Nat.le_trans k4 (by rw [sizeLine_eq]; decide))
  | tuple h1 h2 h3 h4 => exact repr_of_reads' (.tuple h1 h2 h3 h4) k2 (fun z => by rw [nd] at z; cases z) hg (by omega) (fun b o e => e) (fun h' u tk hk => ⟨.str _, H, I.kept hk, ⟨_, rfl⟩, q⟩) (Nat.le_trans k4 (by rw [sizeLine_eq]; decide))
  | dict => simp [PyData.hasDict] at nd
def dRepr : List PyData → Option PyData
  | [d] => if okShow d = true then some (.str d.shown) else none
  | _ => none
theorem fn_repr {β : Bool} {K : PySem.W.Frag} {r : Strg} : Fn β r (rReprD K) dRepr := by
  intro F H Ω σ S w vs ds d Q R hv hg q
  match ds, hg with
  | [e], hg =>
    obtain ⟨ok, rfl⟩ := ite_some hg
    obtain ⟨v, rfl, hx⟩ := hv.one
    have k1 : shp 8 e = true := by
      unfold okShow at ok
      rw [Bool.and_eq_true, Bool.and_eq_true] at ok
      exact ok.1.1
    exact ⟨v, e, rfl, hx.dp k1, ok, q _ H (Ext.refl H) (.str _)⟩
  | [], hg => cases hg
  | _ :: _ :: _, hg => cases hg
end Mini

set_option Elab.async false
set_option linter.all false
set_option maxRecDepth 100000
set_option maxHeartbeats 4000000
set_option exponentiation.threshold 10000
/-! Mini L: the draws' start; the law's own def. -/
namespace Mini
open PySem PySem.Spec PyProof.Rows L2

/-! ### _law_start -/
/-- good for n more draws -/
structure Drw.In (w : Drw) (n : Nat) : Prop where
  ok : w.Ok
  few : w.cnt ≤ (n : Int)
def spStart (K : PySem.W.Frag) : SpG := fun vs H Q => ∃ (a : Addr) (ns : List Int), vs = [.ref a] ∧ SqL K H a (ns.map V.int) ∧ (∀ z ∈ ns, Builtin.Int.intBits z ≤ 1048576) ∧
  ∀ (s c : Addr) (H' : Hp) (w : Drw), Ext H H' → H s = none → H c = none → c ≠ s → H' s = some (.lst (stV c w)) → H' c = some (.lst (w.cells.map V.int)) → w.In 0 → Q (.ref s) H'
abbrev tScr (K : PySem.W.Frag) : TI := iList K (tSl (rSlL K) (tVar 0) tNoPart (tPart (tC (.int 63))))
def mSeed : ME := m2 dAdd (m2 dMod (mF dInt (mCons (m2 dAdd (m2 dMul (mVar 1) (mC (.int 48271))) (mVar 2)) mNil)) (mC (.int 2147483629))) (mC (.int 1))
def mCell : ME := mF dAbs (mCons (mF dInt (mCons (mVar 2) mNil)) mNil)
def mRest : MA := mCons (mC (.int 0)) (mCons (mC (.int 0)) (mCons (mC (.int 0)) (mCons (mVar 1) (mCons (mC (.int 0)) mNil))))
def tStart (K : PySem.W.Frag) : TS := tSeq (tSv false (sAsg (mC (.int 7)) (pName 1))) (tSeq (tFor (tScr K) (tPat false false [2] (pName 2)) (tSv false (sAsg mSeed (pName 1))))
  (tRet (tLst (tCons (tLc (tScr K) (tPat false false [2] (pName 2)) (tTs false mYes) (tEv false .esc mCell) [2]) (tAs false .esc mRest)))))
theorem cutV63 (xs : List V) : cutV xs none (some 63) = xs.take 63 := by
  unfold cutV
  rw [HT.sIx_none, show HT.sIx xs.length xs.length (some 63) = min 63 xs.length from HT.sIx_nat xs.length xs.length 63, Nat.sub_zero, List.drop_zero]
  by_cases h : 63 ≤ xs.length
  · rw [Nat.min_eq_left h]
  · rw [Nat.min_eq_right (by omega), List.take_of_length_le (Nat.le_refl _), List.take_of_length_le (by omega)]
theorem seed_step {s c : Int} {w : Drw} (h0 : 0 ≤ s) (h1 : s < 2147483647) (x : Sl) : ∃ s', 0 ≤ s' ∧ s' < 2147483647 ∧ mSeed [x, .val (.int s), .val (.int c)] w = some (.int s', w) := by
  refine ⟨(s * 48271 + c) % 2147483629 + 1, ?_, ?_, ?_⟩
  · have := Int.emod_nonneg (s * 48271 + c) (b := 2147483629) (by decide)
    omega
  · have := Int.emod_lt_of_pos (s * 48271 + c) (b := 2147483629) (by decide)
    omega
  · have hm : mulOk s 48271 := .inr (.inl (by decide))
    have hp : (0 : Int) < 2147483629 := by decide
    simp only [mSeed, m2, mF, mCons, mNil, mVar, mC, List.getElem?_cons_succ, List.getElem?_cons_zero, Option.bind_some, Option.map_some, dMul, if_pos hm, dAdd, dInt, dMod, if_pos hp]
theorem seed_loop (r : Sl) (w : Drw) : ∀ (ns : List Int) (s : Int) (x : Sl), 0 ≤ s → s < 2147483647 → ∃ s' y, 0 ≤ s' ∧ s' < 2147483647 ∧ forGo (pName 2) (sAsg mSeed (pName 1)) (ns.map .int) [r, .val (.int s), x] w = some (.nx, [r, .val (.int s'), y], w)
  | [], s, x, h0, h1 => ⟨s, x, h0, h1, rfl⟩
  | n :: ns, s, x, h0, h1 => by
    obtain ⟨s1, a0, a1, e⟩ := seed_step (c := n) (w := w) h0 h1 r
    obtain ⟨s2, y, b0, b1, e2⟩ := seed_loop r w ns s1 (.val (.int n)) a0 a1
    refine ⟨s2, y, b0, b1, ?_⟩
    rw [List.map_cons]
    show ((sAsg mSeed (pName 1)) [r, .val (.int s), .val (.int n)] w).bind _ = _
    unfold sAsg
    rw [e]
    exact e2
def absI (i : Int) : Int := if i < 0 then -i else i
theorem cell_loop (w : Drw) (a b c : Sl) : ∀ ns : List Int, lcGo (pName 2) mYes mCell [a, b, c] (ns.map .int) w = some ((ns.map absI).map .int, w)
  | [] => rfl
  | n :: ns => by
    rw [List.map_cons, lcGo_cons, show pName 2 (.int n) [a, b, c] = some [a, b, .val (.int n)] from rfl, Option.bind_some, show mYes [a, b, .val (.int n)] w = some (true, w) from rfl, Option.bind_some, if_pos rfl,
      show mCell [a, b, .val (.int n)] w = some (.int (absI n), w) from rfl, Option.bind_some, cell_loop w a b c ns]
    rfl
/-- script[:63], walked -/
theorem scr_imp {β : Bool} {r : Strg} {K : PySem.W.Frag} {F : Fx β} {Ω : AS} {σ : L2.St} {S : SEnv} {w : Drw} {H : Hp} {a : Addr} {ns : List Int} {R : It → Hp → Prop} (Rl : Rel F H Ω σ S w) (h0 : σ[0]? = some (some (.ref a))) (hS : SqL K H a (ns.map V.int))
    (q : ∀ J H1, Ext H H1 → Walk false r F Ω J H1 ((ns.take 63).map .int) → R J H1) : tScr K σ H R := by
  refine ⟨.ref a, h0, 63, rfl, a, _, rfl, hS, fun p hp => ?_⟩
  rw [cutV63, ← List.map_take]
  obtain ⟨e1, dv⟩ := new_lst Rl (DvA.ofInts (ns.take 63)) (by rw [List.length_map, List.length_take]; exact Nat.le_trans (Nat.min_le_left _ _) (by decide)) hp
  obtain ⟨a', xs, e, k1, k2⟩ := walk_lst (K := K) (r := r) (Rl.ex e1) (Dx.of dv)
  cases e
  exact ⟨p, rfl, ⟨_, k1⟩, q _ _ e1 k2⟩
theorem abs_bits {z : Int} (h : Builtin.Int.intBits z ≤ 1048576) : 0 ≤ absI z ∧ (absI z).natAbs < 2 ^ 1048580 := by
  have e : (absI z).natAbs = z.natAbs := by unfold absI; split <;> omega
  refine ⟨by unfold absI; split <;> omega, ?_⟩
  rw [e]
  by_cases h0 : z.natAbs = 0
  · rw [h0]; exact Nat.two_pow_pos _
  · have hz : z ≠ 0 := fun x => h0 (by rw [x]; rfl)
    refine (Nat.log2_lt h0).mp ?_
    unfold Builtin.Int.intBits at h
    rw [if_neg (by simpa using hz)] at h
    omega
theorem start_law {K : PySem.W.Frag} {vs : List V} {H : Hp} {Q : VK} (h : spStart K vs H Q) : tStart K { nx := fun _ H' => Q .non H', rt := Q } (L2.start ["script", "seed", "cell"] vs) H := by
  obtain ⟨a, ns, rfl, hS, hb, q⟩ := h
  let F : Fx false := ⟨none, 0, H, fun _ => False⟩
  have R0 : Rel F H (fun _ => False) (L2.start ["script", "seed", "cell"] [V.ref a]) [.raw (.ref a), .no, .no] w0 := by
    refine ⟨fun a o k _ => k, fun a k => k, fun a k => k.elim, fun a k => k.elim, rfl, fun i sl k => ?_, fun i j d e b k1 k2 s1 s2 => ?_, trivial⟩
    · match i, k with
      | 0, k => cases k; rfl
      | 1, k => cases k; trivial
      | 2, k => cases k; trivial
    · match i, k1 with
      | 0, k => cases k
      | 1, k => cases k
      | 2, k => cases k
  have keep : ∀ {H' Ω'}, Grow (fun _ => False) H Ω' H' → Same H H' := fun g b o e => g.evo b o e fun z => z
  refine ⟨F, _, _, w0, .nx, [.raw (.ref a), .val (.int 7), .no], w0, R0, rfl, fun σ1 H1 Ω1 R1 g1 => ?_⟩
  obtain ⟨s', y, b0, b1, e⟩ := seed_loop (.raw (.ref a)) w0 (ns.take 63) 7 .no (by decide) (by decide)
  refine (show tFor (tScr K) (tPat false false [2] (pName 2)) (tSv false (sAsg mSeed (pName 1))) _ σ1 H1 from ?_)
  unfold tFor
  refine scr_imp (r := .esc) R1 (R1.slot 0 _ rfl) ((keep g1).seq hS) fun J H2 e2 wk => ?_
  refine for_walk (R1.ex e2) wk e fun σ3 H3 Ω3 R3 g3 => ?_
  have g13 := (g1.trans (Ext.grow e2)).trans g3
  have h3 := keep g13
  unfold tRet tLst tCons tLc
  dsimp only
  refine scr_imp (r := .top) R3 (R3.slot 0 _ rfl) (h3.seq hS) fun J4 H4 e4 wk4 => ?_
  refine lc_walk (vs := [2]) (Q := fun v H => tAs false .esc mRest σ3 H fun xs H2 => (v :: xs).length ≤ sizeLine ∧ ∀ p, H2 p = none → Q (.ref p) (upd H2 p (.lst (v :: xs)))) (R3.ex e4) wk4 (cell_loop w0 _ _ _ (ns.take 63)) (by rw [List.length_map, List.length_map, List.length_take]; exact Nat.le_trans (Nat.min_le_left _ _) (by decide)) fun D H5 hD R5 e5 ow => ?_
  obtain ⟨cv, c1, c2, c3⟩ := ow
  refine ⟨F, Ω3, _, w0, w0, [.int 0, .int 0, .int 0, .int s', .int 0], R5, rfl, fun us H6 R6 e6 hu => ?_⟩
  have c4 := c3.ints
  subst c4
  obtain ⟨rfl⟩ : us = [V.int 0, .int 0, .int 0, .int s', .int 0] := by
    have := hu.dv
    exact DvA.ints (ns := [0, 0, 0, s', 0]) this
  refine ⟨by show 6 ≤ sizeLine; decide, fun p hp => ?_⟩
  have x6 : Same H5 H6 := fun b o k => e6 b o k fun z => nomatch z
  have x5 : Same H4 H5 := fun b o k => e5 b o k fun z => nomatch z
  have d6 : H6 D = some (.lst (((ns.take 63).map absI).map V.int)) := x6 _ _ c1
  have np : D ≠ p := ne_of_none d6 hp
  have all : Same H H6 := ((h3.trans e4).trans x5).trans x6
  refine q p D (upd H6 p (.lst (stV D ⟨(ns.take 63).map absI, 0, 0, 0, s', 0⟩))) ⟨(ns.take 63).map absI, 0, 0, 0, s', 0⟩ (Ext.trans all (Ext.new hp)) (all.free hp) ((h3.trans e4).free hD) np upd_same (by rw [upd_ne np]; exact d6) ⟨⟨?_, ?_, (by decide : (0 : Int) ≤ 0), (by decide : (0 : Int) ≤ 63), (by decide : (0 : Int) ≤ 0), Nat.two_pow_pos _, (by decide : (0 : Int) ≤ 0), (by decide : (0 : Int) ≤ 60), b0, b1, (by decide : (0 : Int) ≤ 0), (by decide : (0 : Int) < 2 ^ 62)⟩, (by decide : (0 : Int) ≤ ((0 : Nat) : Int))⟩
  · show ((ns.take 63).map absI).length ≤ 63
    rw [List.length_map, List.length_take]
    omega
  · intro c hc
    obtain ⟨z, hz, rfl⟩ := List.mem_map.mp hc
    exact abs_bits (hb z (List.mem_of_mem_take hz))

/-! ### the law's def: the draws' start, then the rest -/
def spLaw (K : PySem.W.Frag) : SpG := fun vs H Q => ∃ (a : Addr) (ns : List Int), vs = [.ref a] ∧ SqL K H a (ns.map V.int) ∧ (∀ z ∈ ns, Builtin.Int.intBits z ≤ 1048576) ∧ ∀ H', Q (.bl true) H'
def tLaw (β : Bool) (K : PySem.W.Frag) (m : MS) : TS := tSeq (tAsg (tCallG (spStart K) [] (tCons (tVar 0) tNil)) (gName 1)) (tSv β m)
/-- what the rest of the law has to answer -/
def Good (k : Nat) (m : MS) : Prop := ∀ w : Drw, w.In 0 → ∃ S' w', m (.no :: .stt :: List.replicate k .no) w = some (.rt (.bool true), S', w')
theorem law_law {β : Bool} {K : PySem.W.Frag} {m : MS} {N : List Str} {k : Nat} (hN : N.length = k + 2) (hm : Good k m) {vs : List V} {H : Hp} {Q : VK} (h : spLaw K vs H Q) : tLaw β K m { nx := fun _ H' => Q .non H', rt := Q } (L2.start N vs) H := by
  obtain ⟨a, ns, rfl, hS, hb, q⟩ := h
  have st : L2.start N [V.ref a] = some (.ref a) :: none :: List.replicate k none := by
    unfold L2.start
    rw [hN, List.length_singleton, show k + 2 - 1 = k + 1 from rfl, List.replicate_succ]
    rfl
  rw [st]
  refine ⟨.ref a, rfl, a, ns, rfl, hS, hb, fun s c H' w ex hs hc hcs h1 h2 hw => ?_⟩
  obtain ⟨S', w', e⟩ := hm w hw
  refine ⟨⟨some s, c, H', fun b => b = s ∨ b = c⟩, fun b => b = s ∨ b = c, _, w, _, S', w', ⟨fun b o z _ => z, fun b z => z, ?_, ?_, ?_, fun i sl z => ?_, fun i j d e b k1 k2 s1 s2 => ?_, ?_⟩, e, fun v H2 _ _ dv => ?_⟩
  · rintro b (rfl | rfl)
    · rw [h1]; exact fun z => nomatch z
    · rw [h2]; exact fun z => nomatch z
  · rintro b (rfl | rfl)
    · show H' b ≠ none
      rw [h1]; exact fun z => nomatch z
    · show H' b ≠ none
      rw [h2]; exact fun z => nomatch z
  · simp
  · match i, z with
    | 0, z => cases z; trivial
    | 1, z => cases z; exact ⟨s, rfl, rfl⟩
    | i + 2, z =>
      rw [List.getElem?_cons_succ, List.getElem?_cons_succ, List.getElem?_replicate] at z
      split at z
      · cases z; trivial
      · cases z
  · match i, k1 with
    | 0, z => cases z
    | 1, z => cases z
    | i + 2, z =>
      rw [List.getElem?_cons_succ, List.getElem?_cons_succ, List.getElem?_replicate] at z
      split at z <;> cases z
  · exact ⟨.inl rfl, .inr rfl, hcs, h1, h2, hw.ok⟩
  · rw [Dv.bl_inv dv]
    exact q H2
theorem spLaw_ok {K : PySem.W.Frag} {H : Hp} {a : Addr} {ns : List Int} (hb : ∀ z ∈ ns, Builtin.Int.intBits z ≤ 1048576) (hS : SqL K H a (ns.map V.int)) : spLaw K [.ref a] H fun v _ => v = .bl true := ⟨a, ns, rfl, hS, hb, fun _ => rfl⟩
end Mini

set_option Elab.async false
set_option linter.all false
set_option maxRecDepth 100000
set_option maxHeartbeats 4000000
/-! Mini M: more expressions: new lists, dicts by comprehension, sorted sets. -/
namespace Mini
open PySem PySem.Spec PyProof.Rows L2

/-! ### the built-in names -/
theorem bt_len : bootBuiltins "len" = some (.builtin "len") := by decide +kernel
theorem bt_abs : bootBuiltins "abs" = some (.builtin "abs") := by decide +kernel
theorem bt_sum : bootBuiltins "sum" = some (.builtin "sum") := by decide +kernel
theorem bt_max : bootBuiltins "max" = some (.builtin "max") := by decide +kernel
theorem bt_min : bootBuiltins "min" = some (.builtin "min") := by decide +kernel
theorem bt_all : bootBuiltins "all" = some (.builtin "all") := by decide +kernel
theorem bt_any : bootBuiltins "any" = some (.builtin "any") := by decide +kernel
theorem bt_repr : bootBuiltins "repr" = some (.builtin "repr") := by decide +kernel
theorem bt_sorted : bootBuiltins "sorted" = some (.builtin "sorted") := by decide +kernel
theorem bt_isinstance : bootBuiltins "isinstance" = some (.builtin "isinstance") := by decide +kernel
theorem bt_int : bootBuiltins "int" = some (.type "int") := by decide +kernel
theorem bt_bool : bootBuiltins "bool" = some (.type "bool") := by decide +kernel
theorem bt_str : bootBuiltins "str" = some (.type "str") := by decide +kernel
theorem bt_list : bootBuiltins "list" = some (.type "list") := by decide +kernel
theorem bt_tuple : bootBuiltins "tuple" = some (.type "tuple") := by decide +kernel
theorem bt_set : bootBuiltins "set" = some (.type "set") := by decide +kernel
theorem bt_dict : bootBuiltins "dict" = some (.type "dict") := by decide +kernel

def dLenX : List PyData → Option PyData := fun ds => match ds with
  | [.dict _] => none
  | _ => dLen ds
section
variable {β : Bool} {X : Cx} {a b c e : Expr} {es : List Expr} {pos p1 p2 p3 : Pos} {r ra rb : Strg} {ma mb m : ME} {mr : MA} {mt : MT}
/-! ### not x, as a value -/
/-- not x, x looked at for its truth -/
theorem de_notX (h : DE β r X a m) : DE β .esc X (.UnaryOp .Not a pos) (mV (mNot (mTru m))) := pe_imp (pe_notT h) fun σ H Q ⟨F, Ω, S, w, w', d, R, hm, q⟩ => by
  unfold mV mNot mTru at hm
  obtain ⟨⟨k, w1⟩, h1, hm⟩ := Option.map_eq_some_iff.mp hm
  obtain ⟨⟨k0, w0⟩, h2, h3⟩ := Option.map_eq_some_iff.mp h1
  obtain ⟨⟨d0, w2⟩, h4, h5⟩ := Option.bind_eq_some_iff.mp h2
  obtain ⟨k2, h6, h7⟩ := Option.map_eq_some_iff.mp h5
  cases hm
  cases h3
  cases h7
  exact ⟨F, Ω, S, w, _, d0, R, h4, fun v H1 R1 e1 hv => ⟨_, dx_tru hv h6, q _ H1 R1 e1 (.bl _)⟩⟩

/-! ### new lists of the def's own -/
theorem new_own {F : Fx β} {H : Hp} {Ω : AS} {σ : L2.St} {S : SEnv} {w : Drw} {vs : List V} {ds : List PyData} {p : Addr} (R : Rel F H Ω σ S w) (h : DvA β Ω H vs ds) (hl : ds.length ≤ LB) (hp : H p = none) : Ext H (upd H p (.lst vs)) ∧ OwnAt β (Also Ω p) (upd H p (.lst vs)) p (.list ds) :=
  ⟨.new hp, vs, upd_same, by rw [h.length]; exact hl, h.grow ⟨fun a q => q.elim .inl fun z => .inr (by rw [z]; exact hp), (Ext.new hp).evo Ω⟩⟩
theorem none_back {F : Fx β} {H H1 : Hp} {Ω : AS} {σ : L2.St} {S : SEnv} {w : Drw} {p : Addr} (R1 : Rel F H1 Ω σ S w) (e : Evs F.st H H1) (h : H1 p = none) : H p = none := by
  cases q : H p with
  | none => rfl
  | some o =>
    by_cases hz : F.st = some p
    · exact absurd h (R1.dom p (R1.stΨ hz).2)
    · rw [e p o q hz] at h; cases h
theorem df_lst (h : DA β .esc X es mr) : DF β X (.List es pos) (mLst mr) := pe_imp (pe_lst h) fun σ H Q ⟨F, Ω, S, w, w', d, R, hm, q⟩ => by
  unfold mLst at hm
  obtain ⟨⟨ds, w1⟩, h1, hm⟩ := Option.bind_eq_some_iff.mp hm
  obtain ⟨hl, hm⟩ := ite_some hm
  cases hm
  refine ⟨F, Ω, S, w, _, ds, R, h1, fun vs H1 R1 e1 hvs => ⟨LB_line (by rw [hvs.dv.length]; exact hl), fun p hp => ?_⟩⟩
  obtain ⟨e2, ow⟩ := new_own R1 hvs.dv hl hp
  exact q p _ (R1.ex e2) (e1.trans e2.evs) (none_back R1 e1 hp) ow
/-- a builtin that makes a new list -/
def FnL (β : Bool) (r : Strg) (rl : List V → Hp → VK → Prop) (g : List PyData → Option PyData) : Prop := ∀ (F : Fx β) (H : Hp) (Ω : AS) (σ : L2.St) (S : SEnv) (w : Drw) (vs : List V) (ds : List PyData) (d : PyData) (Q : VK), Rel F H Ω σ S w → DxA r F Ω H vs ds → g ds = some d →
  (∀ p H', H p = none → Ext H H' → OwnAt β (Also Ω p) H' p d → Q (.ref p) H') → rl vs H Q
theorem fnl_imp {rl : List V → Hp → VK → Prop} {g : List PyData → Option PyData} (hg : FnL β r rl g) {σ : L2.St} {H : Hp} {Q : VK} (h : tFr β (mF g mr) σ H Q) : tCB rl (tAs β r mr) σ H Q := by
  obtain ⟨F, Ω, S, w, w', d, R, hm, q⟩ := h
  unfold mF at hm
  obtain ⟨⟨ds, w1⟩, h1, hm⟩ := Option.bind_eq_some_iff.mp hm
  obtain ⟨d', h2, hm⟩ := Option.map_eq_some_iff.mp hm
  cases hm
  exact ⟨F, Ω, S, w, _, ds, R, h1, fun vs H1 R1 e1 hvs => hg F H1 Ω σ S _ vs ds _ Q R1 hvs h2 fun p H2 hp e2 ow => q p H2 (R1.ex e2) (e1.trans e2.evs) (none_back R1 e1 hp) ow⟩
theorem df_list {x : Str} (hx : x = "list" := by rfl) (hg : Gl X "list") (hm : X.mg "list" = none) (ha : DA β r X [e] mr) (he : starEach [e] X.env = (false, eval e X.env) :: starEach [] X.env := by rfl) : DF β X (.Call (.Name "list" p1) [e] [] pos) (mF dList mr) :=
  pe_imp (pe_callTy call_list_of hg hm bt_list ha (by decide) (by decide) he (by rfl)) fun _ _ _ h => fnl_imp (g := dList) (fun F H Ω σ S w vs ds d Q R hv hg q => by
    match ds, hg with
    | [e], hg =>
      obtain ⟨xs, h1, rfl⟩ := Option.map_eq_some_iff.mp hg
      obtain ⟨v, rfl, hx⟩ := hv.one
      obtain ⟨a, us, ev, h2, h3, h4⟩ := hx.seq_inv (K := X.K) (seqOf_inv h1)
      refine ⟨a, us, by rw [ev], h2, fun p hp => ?_⟩
      obtain ⟨e1, ow⟩ := new_own R h4 (by rw [← h4.length]; exact h3) hp
      exact q p _ hp e1 ow) h
theorem df_sortI (hg : Gl X "sorted") (hm : X.mg "sorted" = none) (ha : DA β r X [e] mr) (he : starEach [e] X.env = (false, eval e X.env) :: starEach [] X.env := by rfl) : DF β X (.Call (.Name "sorted" p1) [e] [] pos) (mF dSortI mr) :=
  pe_imp (pe_callB cr_sortedI hg hm bt_sorted ha (by decide) (by decide) he (by rfl)) fun _ _ _ h => fnl_imp (g := dSortI) (fun F H Ω σ S w vs ds d Q R hv hg q => by
    match ds, hg with
    | [.list xs], hg =>
      obtain ⟨ns, h1, rfl⟩ := Option.map_eq_some_iff.mp (show (intsOf xs).map (fun ns => PyData.list ((srtI ns).map .int)) = some d from hg)
      obtain ⟨v, rfl, hx⟩ := hv.one
      obtain ⟨a, us, ev, h4, h5, h6⟩ := hx.lst_inv
      rw [intsOf_inv h1] at h6
      have e2 := h6.ints
      subst e2
      refine ⟨a, ns, by rw [ev], .of h4, fun ns' p hp hs hn => ?_⟩
      have e3 : ns' = srtI ns := srt_one (hp.trans (srtI_perm ns).symm) hs (srtI_le ns)
      subst e3
      obtain ⟨e1, ow⟩ := new_own R (DvA.ofInts (srtI ns)) (by rw [List.length_map, (srtI_perm ns).length_eq]; rw [List.length_map] at h5; exact h5) hn
      exact q p _ hn e1 ow) h
def dCatL : PyData → PyData → Option PyData
  | .list xs, .list ys => if xs.length + ys.length ≤ LB then some (.list (xs ++ ys)) else none
  | _, _ => none
def dRepL : PyData → PyData → Option PyData
  | .list xs, .int k => if 0 ≤ k ∧ k.natAbs ≤ 1000000 ∧ xs.length * k.toNat ≤ LB then some (.list (List.replicate k.toNat xs).flatten) else none
  | _, _ => none
def Op2L (β : Bool) (ra rb : Strg) (rl : R2) (g : PyData → PyData → Option PyData) : Prop := ∀ (F : Fx β) (H : Hp) (Ω : AS) (σ : L2.St) (S : SEnv) (w : Drw) (x y : V) (dx dy d : PyData) (Q : VK), Rel F H Ω σ S w → Dx ra F Ω H x dx → Dx rb F Ω H y dy → g dx dy = some d →
  (∀ p H', H p = none → Ext H H' → OwnAt β (Also Ω p) H' p d → Q (.ref p) H') → rl x y H Q
theorem op2l_imp {rl : R2} {g : PyData → PyData → Option PyData} (hg : Op2L β ra rb rl g) {σ : L2.St} {H : Hp} {Q : VK} (h : tFr β (m2 g ma mb) σ H Q) : tOp rl (tEv β ra ma) (tEv β rb mb) σ H Q := by
  obtain ⟨F, Ω, S, w, w', d, R, hm, q⟩ := h
  unfold m2 at hm
  obtain ⟨⟨dx, w1⟩, h1, hm⟩ := Option.bind_eq_some_iff.mp hm
  obtain ⟨⟨dy, w2⟩, h2, hm⟩ := Option.bind_eq_some_iff.mp hm
  obtain ⟨d', h3, hm⟩ := Option.map_eq_some_iff.mp hm
  cases hm
  refine ⟨F, Ω, S, w, w1, dx, R, h1, fun x H1 R1 e1 hx => ⟨F, Ω, S, w1, _, dy, R1, h2, fun y H2 R2 e2 hy => ?_⟩⟩
  exact hg F H2 Ω σ S _ x y dx dy _ Q R2 (hx.mono R1 e2) hy h3 fun p H3 hp e3 ow => q p H3 (R2.ex e3) ((e1.trans e2).trans e3.evs) (none_back R2 (e1.trans e2) hp) ow
theorem df_cat (ha : DE β ra X a ma) (hb : DE β rb X b mb) : DF β X (.BinOp a .Add b pos) (m2 dCatL ma mb) := pe_imp (pe_op op_cat ha hb) fun _ _ _ h => op2l_imp (g := dCatL) (fun F H Ω σ S w x y dx dy d Q R hx hy hg q => by
  cases dx with
  | list xs =>
    cases dy with
    | list ys =>
      obtain ⟨hl, rfl⟩ := ite_some hg
      obtain ⟨a, vs, ex, h2, l1, r1⟩ := hx.lst_inv
      obtain ⟨b, us, ey, k2, l2, r2⟩ := hy.lst_inv
      refine ⟨a, b, vs, us, ex, ey, h2, k2, LB_line (by rw [r1.length, r2.length]; exact hl), fun p hp => ?_⟩
      obtain ⟨e1, ow⟩ := new_own R (r1.append r2) (by rw [List.length_append]; exact hl) hp
      exact q p _ hp e1 ow
    | _ => cases hg
  | _ => cases hg) h
theorem df_rep (ha : DE β ra X a ma) (hb : DE β rb X b mb) : DF β X (.BinOp a .Mult b pos) (m2 dRepL ma mb) := pe_imp (pe_op op_rep ha hb) fun _ _ _ h => op2l_imp (g := dRepL) (fun F H Ω σ S w x y dx dy d Q R hx hy hg q => by
  cases dx with
  | list xs =>
    cases dy with
    | int k =>
      obtain ⟨⟨h0, h1, hl⟩, rfl⟩ := ite_some hg
      obtain ⟨a, vs, ex, h2, l1, r1⟩ := hx.lst_inv
      have hz : vs.length * k.toNat ≤ LB := by rw [r1.length]; exact hl
      refine ⟨a, k, vs, ex, hy.int_inv, h2, by omega, by omega, LB_line hz, fun p hp => ?_⟩
      obtain ⟨e1, ow⟩ := new_own R (rep_flat r1 k.toNat) (by rw [rep_len]; exact hl) hp
      exact q p _ hp e1 ow
    | _ => cases hg
  | _ => cases hg) h
def dAddI : PyData → PyData → Option PyData
  | .int i, .int j => some (.int (i + j))
  | _, _ => none
/-- the start of the draws, as a call -/
theorem pe_start {k : Nat} {sp : SpG} {x : Str} {t : TA} (D : DefP X.prog X.w X.K X.mg X.base k x sp []) (hr : RoomG k X.A) (hg : Gl X x) (ha : PA X [e] t) (hdb : (x == ("__debug__" : Str)) = false := by decide) (he : starEach [e] X.env = (false, eval e X.env) :: starEach [] X.env := by rfl) : PE X (.Call (.Name x p1) [e] [] pos) (tCallG sp [] t) := by
  obtain ⟨f, fd, ps, ds, F, hm, hk, hb, hv⟩ := D.ex
  exact pe_callG F hr hg hm hk hb hv ha hdb he (by rfl)
/-! ### sorted(set(ints)) -/
def uniqS : List Int → List Int
  | x :: y :: r => if x = y then uniqS (y :: r) else x :: uniqS (y :: r)
  | l => l
def srtU (ns : List Int) : List Int := uniqS (srtI ns)
theorem uniqS_mem : ∀ (l : List Int) (k : Int), k ∈ uniqS l ↔ k ∈ l
  | [], k => by simp [uniqS]
  | [x], k => by simp [uniqS]
  | x :: y :: r, k => by
    unfold uniqS
    split
    · rename_i e
      rw [uniqS_mem (y :: r) k, e]
      simp
    · rw [List.mem_cons, uniqS_mem (y :: r) k]
      simp only [List.mem_cons]
theorem uniqS_lt : ∀ l : List Int, l.Pairwise (· ≤ ·) → (uniqS l).Pairwise (· < ·)
  | [], _ => .nil
  | [x], _ => by simp [uniqS]
  | x :: y :: r, h => by
    have h2 := (List.pairwise_cons.mp h).2
    unfold uniqS
    split
    · exact uniqS_lt (y :: r) h2
    · rename_i ne
      refine List.pairwise_cons.mpr ⟨fun z hz => ?_, uniqS_lt (y :: r) h2⟩
      have hz' := (uniqS_mem (y :: r) z).mp hz
      have a := (List.pairwise_cons.mp h).1 y List.mem_cons_self
      rcases List.mem_cons.mp hz' with e | hz'
      · omega
      · have b := (List.pairwise_cons.mp h2).1 z hz'
        omega
theorem uniqS_len : ∀ l : List Int, (uniqS l).length ≤ l.length
  | [] => Nat.le_refl _
  | [_] => Nat.le_refl _
  | x :: y :: r => by
    have := uniqS_len (y :: r)
    unfold uniqS
    split
    · simp only [List.length_cons] at *; omega
    · simp only [List.length_cons] at *; omega
theorem lt_one : ∀ {xs ys : List Int}, xs.Pairwise (· < ·) → ys.Pairwise (· < ·) → (∀ k, k ∈ xs ↔ k ∈ ys) → xs = ys
  | [], [], _, _, _ => rfl
  | [], y :: ys, _, _, h => absurd ((h y).mpr List.mem_cons_self) (by simp)
  | x :: xs, [], _, _, h => absurd ((h x).mp List.mem_cons_self) (by simp)
  | x :: xs, y :: ys, hx, hy, h => by
    have px := List.pairwise_cons.mp hx
    have py := List.pairwise_cons.mp hy
    have e : x = y := by
      rcases List.mem_cons.mp ((h x).mp List.mem_cons_self) with e | a
      · exact e
      · rcases List.mem_cons.mp ((h y).mpr List.mem_cons_self) with e | b
        · exact e.symm
        · have := py.1 x a
          have := px.1 y b
          omega
    subst e
    rw [lt_one px.2 py.2 fun k => ⟨fun hk => ?_, fun hk => ?_⟩]
    · rcases List.mem_cons.mp ((h k).mp (List.mem_cons_of_mem _ hk)) with e | a
      · have := px.1 k hk; omega
      · exact a
    · rcases List.mem_cons.mp ((h k).mpr (List.mem_cons_of_mem _ hk)) with e | a
      · have := py.1 k hk; omega
      · exact a
theorem srtU_mem (ns : List Int) (k : Int) : k ∈ srtU ns ↔ k ∈ ns := by
  unfold srtU
  rw [uniqS_mem, (srtI_perm ns).mem_iff]
theorem srtU_lt (ns : List Int) : (srtU ns).Pairwise (· < ·) := uniqS_lt _ (srtI_le ns)
theorem srtU_len (ns : List Int) : (srtU ns).length ≤ ns.length := by
  have := uniqS_len (srtI ns)
  rw [(srtI_perm ns).length_eq] at this
  exact this
def rSetI' (K : PySem.W.Frag) (w : World) : List V → Hp → VK → Prop := fun xs H Q => ∃ (a : Addr) (ns : List Int), xs = [.ref a] ∧ SqT K H a (ns.map V.int) ∧ ns.length < 64 ∧ ∀ (p : Addr) (n : Nat), H p = none → n ≤ ns.length → Q (.ref p) (upd H p (SetO w p (fun j => decide (j ∈ ns)) n))
theorem call_setI' (hc : X.calm = true) : CallR X (.type "set") (rSetI' X.K X.w) := by
  intro pins s σ H xs us Q I r ⟨a, ns, ex, hq, hl, q⟩
  subst ex
  obtain ⟨u, rfl, rx⟩ := vals1 r
  cases rx
  obtain ⟨its, rv, pt, hz⟩ := I.tuple hq
  refine call_set_tupI ns (I.ok.hd hc) (show s.heap.IsTuple a its.toArray from pt) (show IntsAre its.toArray.toList ns from ints_of_vals rv) (by unfold scanBound; omega) fun h' tk c R1 hcn k => ?_
  exact ⟨.ref _, _, I.laid (t' := tk) k (Nat.le_refl _) (setO_new R1), rfl, q _ c (I.hok.fresh (Nat.le_refl _)) hcn⟩
def mSortedSet (m : ME) : ME := fun S w => (m S w).bind fun p => match p.1 with
  | .tuple xs => (intsOf xs).bind fun ns => if ns.length < 64 then some (.list ((srtU ns).map .int), p.2) else none
  | _ => none
theorem de_sortedSet (hc : X.calm = true) (hg : Gl X "sorted") (hm : X.mg "sorted" = none) (hg2 : Gl X "set") (hm2 : X.mg "set" = none) (he : DE β r X e m) (hs : starEach [e] X.env = (false, eval e X.env) :: starEach [] X.env := by rfl) :
    DE β .esc X (.Call (.Name "sorted" p1) [.Call (.Name "set" p2) [e] [] p3] [] pos) (mSortedSet m) :=
  pe_imp (pe_callB (cr_sortedSet hc) hg hm bt_sorted (pa_cons (pe_callTy (call_setI' hc) hg2 hm2 bt_set (pa_cons he pa_nil hs) (by decide) (by decide) hs (by rfl)) pa_nil)) fun σ H Q ⟨F, Ω, S, w, w', d, R, hmm, q⟩ => by
  unfold mSortedSet at hmm
  obtain ⟨⟨d0, w1⟩, h1, hmm⟩ := Option.bind_eq_some_iff.mp hmm
  cases d0 with
  | tuple xs =>
    obtain ⟨ns, h2, hmm⟩ := Option.bind_eq_some_iff.mp hmm
    obtain ⟨hl, hmm⟩ := ite_some hmm
    cases hmm
    refine ⟨F, Ω, S, w, _, .tuple xs, R, h1, fun v H1 R1 e1 hv => ?_⟩
    obtain ⟨a, vs, rfl, k1, k2, k3⟩ := hv.tup_inv
    rw [intsOf_inv h2] at k3
    have e2 := k3.ints
    subst e2
    refine ⟨a, ns, rfl, k1.seq, hl, fun p n hp hn => ?_⟩
    have x1 : Ext H1 (upd H1 p (SetO X.w p (fun j => decide (j ∈ ns)) n)) := .new hp
    refine ⟨p, _, n, rfl, upd_same, by omega, fun ms t hms hmem hlen ht => ?_⟩
    have e3 : ms = srtU ns := lt_one hms (srtU_lt ns) fun k => by rw [hmem k, decide_eq_true_eq, srtU_mem]
    subst e3
    obtain ⟨x2, dv⟩ := new_lst (R1.ex x1) (DvA.ofInts (srtU ns)) (by rw [List.length_map, hlen]; exact Nat.le_trans hn (Nat.le_trans (Nat.le_of_lt hl) (by decide))) ht
    exact q _ _ ((R1.ex x1).ex x2) ((e1.trans x1.evs).trans x2.evs) dv
  | _ => cases hmm
end
end Mini

set_option Elab.async false
set_option linter.all false
set_option maxRecDepth 100000
set_option maxHeartbeats 4000000
/-! Mini N: dicts by comprehension, keys ints or texts. -/
namespace Mini
open PySem PySem.Spec PyProof.Rows L2

abbrev KDs := List (Key × PyData)
def keyOf : PyData → Option Key
  | .int i => some (.inl i)
  | .str x => some (.inr x)
  | _ => none
theorem keyOf_dv {β : Bool} {Ω : AS} {H : Hp} {d : PyData} {k : Key} {v : V} (h : keyOf d = some k) (hv : Dv β Ω H v d) : v = kV k := by
  cases d <;> first | (cases h; done) | skip
  · cases h; rw [hv.int_inv]; rfl
  · cases h; rw [hv.str_inv]; rfl
def putD (kds : KDs) (k : Key) (d : PyData) : KDs := if (kds.any fun p => decide (p.1 = k)) = true then kds.map (fun p => if p.1 = k then (p.1, d) else p) else kds ++ [(k, d)]
def dictD (kds : KDs) : PyData := .dict (kds.map fun p => (keyD p.1, p.2))
inductive KD (β : Bool) (Ω : AS) (H : Hp) : List (Key × V) → KDs → Prop
  | nil : KD β Ω H [] []
  | cons {k : Key} {v : V} {d : PyData} {kvs : List (Key × V)} {kds : KDs} : Dv β Ω H v d → KD β Ω H kvs kds → KD β Ω H ((k, v) :: kvs) ((k, d) :: kds)
section
variable {β : Bool} {Ω Ω' : AS} {H H' : Hp}
theorem KD.grow (g : Grow Ω H Ω' H') : ∀ {kvs kds}, KD β Ω H kvs kds → KD β Ω' H' kvs kds
  | _, _, .nil => .nil
  | _, _, .cons h r => .cons (h.grow g) (KD.grow g r)
theorem KD.length : ∀ {kvs kds}, KD β Ω H kvs kds → kvs.length = kds.length
  | _, _, .nil => rfl
  | _, _, .cons _ r => congrArg (· + 1) (KD.length r)
theorem KD.any (k : Key) : ∀ {kvs kds}, KD β Ω H kvs kds → (kvs.any fun p => decide (p.1 = k)) = (kds.any fun p => decide (p.1 = k))
  | _, _, .nil => rfl
  | _, _, .cons _ r => by rw [List.any_cons, List.any_cons, KD.any k r]
theorem KD.app {k : Key} {v : V} {d : PyData} (h : Dv β Ω H v d) : ∀ {kvs kds}, KD β Ω H kvs kds → KD β Ω H (kvs ++ [(k, v)]) (kds ++ [(k, d)])
  | _, _, .nil => .cons h .nil
  | _, _, .cons q r => .cons q (KD.app h r)
theorem KD.upd {k : Key} {v : V} {d : PyData} (h : Dv β Ω H v d) : ∀ {kvs kds}, KD β Ω H kvs kds → KD β Ω H (kvs.map fun p => if p.1 = k then (p.1, v) else p) (kds.map fun p => if p.1 = k then (p.1, d) else p)
  | _, _, .nil => .nil
  | _, _, .cons (k := k') q r => by
    rw [List.map_cons, List.map_cons]
    by_cases e : k' = k
    · rw [if_pos e, if_pos e]; exact .cons h (KD.upd h r)
    · rw [if_neg e, if_neg e]; exact .cons q (KD.upd h r)
theorem KD.put {k : Key} {v : V} {d : PyData} {kvs : List (Key × V)} {kds : KDs} (h : Dv β Ω H v d) (r : KD β Ω H kvs kds) : KD β Ω H (putK kvs k v) (putD kds k d) := by
  unfold putK putD
  rw [r.any k]
  split
  · exact r.upd h
  · exact r.app h
theorem KD.vals : ∀ {kvs kds}, KD β Ω H kvs kds → DvA β Ω H (kvs.map (·.2)) (kds.map (·.2)) ∧ kds.map (fun p => (keyD p.1, p.2)) = (kvs.map fun p => keyD p.1).zip (kds.map (·.2))
  | _, _, .nil => ⟨.nil, rfl⟩
  | _, _, .cons h r => by
    obtain ⟨a, b⟩ := r.vals
    refine ⟨.cons h a, ?_⟩
    rw [List.map_cons, List.map_cons, List.map_cons, List.zip_cons_cons, b]
theorem KD.own {a : Addr} {kvs : List (Key × V)} {kds : KDs} (h : H a = some (.dK kvs)) (hl : kds.length ≤ LB) (r : KD β Ω H kvs kds) : OwnAt β Ω H a (dictD kds) :=
  .inl ⟨kvs, kds.map (·.2), h, by rw [r.length]; exact hl, r.vals.1, r.vals.2⟩
end
theorem putD_len (kds : KDs) (k : Key) (d : PyData) : kds.length ≤ (putD kds k d).length := by
  unfold putD
  split
  · rw [List.length_map]; exact Nat.le_refl _
  · rw [List.length_append]; exact Nat.le_add_right _ _
def dcGo (p : MG) (t : MT) (ek ev : ME) (S : SEnv) : List PyData → KDs → Drw → Option (KDs × Drw)
  | [], acc, w => some (acc, w)
  | d :: ds, acc, w => (p d S).bind fun S1 => (t S1 w).bind fun q => if q.1 = true then (ek S1 q.2).bind fun y => (ev S1 y.2).bind fun z => (keyOf y.1).bind fun k => dcGo p t ek ev S ds (putD acc k z.1) z.2 else dcGo p t ek ev S ds acc q.2
theorem dcGo_len {p : MG} {t : MT} {ek ev : ME} {S : SEnv} : ∀ {ds : List PyData} {acc rs : KDs} {w w' : Drw}, dcGo p t ek ev S ds acc w = some (rs, w') → acc.length ≤ rs.length
  | [], acc, rs, w, w', h => by cases h; exact Nat.le_refl _
  | d :: ds, acc, rs, w, w', h => by
    unfold dcGo at h
    obtain ⟨S1, _, h⟩ := Option.bind_eq_some_iff.mp h
    obtain ⟨⟨b, wb⟩, _, h⟩ := Option.bind_eq_some_iff.mp h
    cases b with
    | true =>
      rw [if_pos rfl] at h
      obtain ⟨y, _, h⟩ := Option.bind_eq_some_iff.mp h
      obtain ⟨z, _, h⟩ := Option.bind_eq_some_iff.mp h
      obtain ⟨k, _, h⟩ := Option.bind_eq_some_iff.mp h
      exact Nat.le_trans (putD_len _ _ _) (dcGo_len h)
    | false =>
      rw [if_neg Bool.false_ne_true] at h
      exact dcGo_len h
def mDc (mi : MA) (p : MG) (t : MT) (ek ev : ME) (vs : List Nat) : ME := fun S w => (mi S w).bind fun q => (dcGo p t ek ev (wipeS S vs) q.1 [] q.2).bind fun r => if r.1.length ≤ LB then some (dictD r.1, r.2) else none
section
variable {β : Bool} {X : Cx} {tg iter kx vx : Expr} {ifs : List Expr} {scope : Scope} {own : List (Str × Nat)} {pos : Pos} {p : MG} {mi : MA} {mt : MT} {mk me : ME} {z : Bool}
theorem dc_walk {vs : List Nat} {F : Fx β} {Ω : AS} {σ : L2.St} {S : SEnv} {w1 w2 : Drw} {ds : List PyData} {rs : KDs} {J : It} {H1 : Hp} {Q : VK} (R1 : Rel F H1 Ω σ S w1) (wk : Walk z .top F Ω J H1 ds) (h2 : dcGo p mt mk me (wipeS S vs) ds [] w1 = some (rs, w2)) (hl : rs.length ≤ LB)
    (q : ∀ D H', H1 D = none → Rel F H' Ω σ S w2 → Evs F.st H1 H' → OwnAt β (Also Ω D) H' D (dictD rs) → Q (.ref D) H') (D : Addr) (hD : H1 D = none) :
    ∃ W : Nat → Nat → Hp → Prop, (∃ m, W 0 m (upd H1 D (.dK []))) ∧ ∀ i m H, W i m H →
      (J.stop i H ∧ Q (.ref D) H) ∨ (J.go i H ∧ ∃ Nx : Hp → Prop, (∀ H', Nx H' → ∃ m', m' < m ∧ W (i + 1) m' H') ∧ ∀ x H', J.yld i H x H' → tPat β z vs p x (L2.wipe σ vs) H' fun σ2 H2 => L2.wipe σ2 vs = L2.wipe σ vs ∧ tTs β mt σ2 H2 fun b H3 =>
        if b = true then tEv β .esc mk σ2 H3 fun y H4 => tEv β .esc me σ2 H4 fun u H5 => ∃ kvs k, y = kV k ∧ H5 D = some (.dK kvs) ∧ kvs.length < sizeLine ∧ Nx (upd H5 D (.dK (putK kvs k u))) else Nx H3) := by
  let Inv : Nat → Hp → Prop := fun i H' => ∃ wi kvs kds, Evs F.st H1 H' ∧ WOk F.st F.cl F.Ψ H' wi ∧ H' D = some (.dK kvs) ∧ KD β (Also Ω D) H' kvs kds ∧ dcGo p mt mk me (wipeS S vs) (ds.drop i) kds wi = some (rs, w2)
  have ax : ∀ {H' : Hp} {xs : List (Key × V)}, Evs F.st H1 H' → Evs F.st H1 (upd H' D (.dK xs)) := fun e a o h n => by
    rw [upd_ne (ne_of_none h hD)]
    exact e a o h n
  have wx : ∀ {H' : Hp} {xs : List (Key × V)} {wi}, WOk F.st F.cl F.Ψ H' wi → WOk F.st F.cl F.Ψ (upd H' D (.dK xs)) wi := fun {H' xs wi} k => by
    cases hst : F.st with
    | none => trivial
    | some s =>
      have n1 : ∀ a, F.Ψ a → a ≠ D := fun a ha hz => R1.dom a (R1.base a ha) (by rw [hz]; exact hD)
      rw [hst] at k
      obtain ⟨k0, k1, k2, k3, k4, k5⟩ := k
      exact ⟨k0, k1, k2, by rw [upd_ne (n1 _ k0)]; exact k3, by rw [upd_ne (n1 _ k1)]; exact k4, k5⟩
  refine ⟨fun i m H' => m = ds.length - i ∧ i ≤ ds.length ∧ Inv i H', ⟨ds.length, by simp, Nat.zero_le _, w1, [], [], ax (Evs.refl _ _), wx R1.wok, upd_same, .nil, h2⟩, ?_⟩
  rintro i m H' ⟨rfl, hi, wi, kvs, kds, ev, wok, hDl, hacc, hgo⟩
  have gr : Grow Ω H1 (Also Ω D) H' := ⟨fun a h => h.elim .inl fun z => .inr (by rw [z]; exact hD), R1.evo ev⟩
  have st : Stay .top F Ω H1 (Also Ω D) H' := ⟨gr, fun _ => ev⟩
  by_cases hlt : i < ds.length
  · refine .inr ⟨wk.go _ H' i st hlt, Inv (i + 1), fun H'' p' => ⟨ds.length - (i + 1), by omega, rfl, hlt, p'⟩, fun x H2 y => ?_⟩
    rw [List.drop_eq_getElem_cons hlt] at hgo
    unfold dcGo at hgo
    obtain ⟨S1, g1, hgo⟩ := Option.bind_eq_some_iff.mp hgo
    obtain ⟨⟨b, wb⟩, g2, hgo⟩ := Option.bind_eq_some_iff.mp hgo
    obtain ⟨ex, hit⟩ := wk.yld _ H' i x H2 _ st (List.getElem?_eq_getElem hlt) y
    have R2 : Rel F H' (Also Ω D) (L2.wipe σ vs) (wipeS S vs) wi := (R1.also hD ev wok (by rw [hDl]; exact fun z => nomatch z)).wipe vs
    have R3 := R2.ex ex
    refine ⟨F, Also Ω D, wipeS S vs, wi, _, S1, R3, hit, g1, fun σ' R4 sb => ⟨by rw [sb.wipe]; exact wipe_twice vs, F, Also Ω D, S1, wi, wb, b, R4, g2, fun H3 R5 e5 => ?_⟩⟩
    have nD : F.st ≠ some D := fun z => R1.dom D (R1.stΨ z).2 hD
    have l3 : H3 D = some (.dK kvs) := e5 D _ (ex D _ hDl) nD
    have g3 : Evs F.st H1 H3 := (ev.trans ex.evs).trans e5
    have a3 : KD β (Also Ω D) H3 kvs kds := hacc.grow ((Ext.grow ex).trans (R4.grow e5))
    cases b with
    | true =>
      simp only [if_true] at hgo ⊢
      obtain ⟨⟨yd, wy⟩, g4, hgo⟩ := Option.bind_eq_some_iff.mp hgo
      obtain ⟨⟨zd, wz⟩, g5, hgo⟩ := Option.bind_eq_some_iff.mp hgo
      obtain ⟨k, g6, hgo⟩ := Option.bind_eq_some_iff.mp hgo
      refine ⟨F, Also Ω D, S1, wb, wy, yd, R5, g4, fun yv H4 R6 e6 hy => ⟨F, Also Ω D, S1, wy, wz, zd, R6, g5, fun zv H5 R7 e7 hz => ?_⟩⟩
      have l5 : H5 D = some (.dK kvs) := e7 D _ (e6 D _ l3 nD) nD
      have a5 : KD β (Also Ω D) H5 kvs kds := (a3.grow (R5.grow e6)).grow (R6.grow e7)
      have al : kvs.length < sizeLine := by
        have q0 := putD_len kds k zd
        have q1 : (putD kds k zd).length ≤ rs.length := dcGo_len hgo
        have q2 := hacc.length
        have q3 : kvs.length ≤ LB := by omega
        exact Nat.lt_of_le_of_lt q3 (by rw [sizeLine_eq]; decide)
      refine ⟨kvs, k, keyOf_dv g6 hy, l5, al, wz, putK kvs k zv, putD kds k zd, ax ((g3.trans e6).trans e7), wx R7.wok, upd_same, ?_, hgo⟩
      refine KD.grow (Ω := Also Ω D) (H := H5) ⟨fun a h => .inl h, fun a o h n => ?_⟩ (a5.put hz)
      rw [upd_ne (fun z => n (.inr z))]
      exact h
    | false =>
      simp only [Bool.false_eq_true, if_false] at hgo ⊢
      exact ⟨wb, kvs, kds, g3, R5.wok, l3, a3, hgo⟩
  · have e : i = ds.length := by omega
    subst e
    rw [List.drop_length] at hgo
    cases hgo
    exact .inl ⟨wk.stop _ H' _ st (Nat.le_refl _), q D H' hD (R1.evs ev wok) ev (hacc.own hDl hl)⟩
theorem df_dc (hc : X.calm = true) (hN : X.N.Nodup) (hi : DI β z .top X tg iter mi) (ok : BlkOk X.N X.env.scope scope own)
    (hg : ∀ (s : Shared) (H : Hp) (C : Addr) (cl : List (Str × Addr)) (fp : List Addr), DG β z (own.map (·.2)) (X.blk s H scope (compEnvC scope cl C X.env) fp) tg p) (ht : ∀ (s : Shared) (H : Hp) (C : Addr) (cl : List (Str × Addr)) (fp : List Addr), DTs β (X.blk s H scope (compEnvC scope cl C X.env) fp) ifs mt)
    (hk : ∀ (s : Shared) (H : Hp) (C : Addr) (cl : List (Str × Addr)) (fp : List Addr), DE β .esc (X.blk s H scope (compEnvC scope cl C X.env) fp) kx mk)
    (he : ∀ (s : Shared) (H : Hp) (C : Addr) (cl : List (Str × Addr)) (fp : List Addr), DE β .esc (X.blk s H scope (compEnvC scope cl C X.env) fp) vx me) (hs : ∀ x, foldedSetIterable iter X.env x = pure x := by intro _; rfl) :
    DF β X (.DictComp kx vx [⟨tg, iter, ifs, 0⟩] scope pos) (mDc mi p mt mk me (own.map (·.2))) :=
  pe_imp (pe_dc hc hN hi ok hg ht hk he hs) fun σ H Q ⟨F, Ω, S, w, w', d, R, hm, q⟩ => by
  unfold mDc at hm
  obtain ⟨⟨ds, w1⟩, h1, hm⟩ := Option.bind_eq_some_iff.mp hm
  obtain ⟨⟨rs, w2⟩, h2, hm⟩ := Option.bind_eq_some_iff.mp hm
  obtain ⟨hl, hm⟩ := ite_some hm
  cases hm
  exact ⟨F, Ω, S, w, w1, ds, R, h1, fun J H1 R1 e1 wk => dc_walk R1 wk h2 hl fun D H' hD R' ev ho => q D H' R' (e1.trans ev) (none_back R1 e1 hD) ho⟩
theorem de_dc (hc : X.calm = true) (hN : X.N.Nodup) (hi : DI β z .top X tg iter mi) (ok : BlkOk X.N X.env.scope scope own)
    (hg : ∀ (s : Shared) (H : Hp) (C : Addr) (cl : List (Str × Addr)) (fp : List Addr), DG β z (own.map (·.2)) (X.blk s H scope (compEnvC scope cl C X.env) fp) tg p) (ht : ∀ (s : Shared) (H : Hp) (C : Addr) (cl : List (Str × Addr)) (fp : List Addr), DTs β (X.blk s H scope (compEnvC scope cl C X.env) fp) ifs mt)
    (hk : ∀ (s : Shared) (H : Hp) (C : Addr) (cl : List (Str × Addr)) (fp : List Addr), DE β .esc (X.blk s H scope (compEnvC scope cl C X.env) fp) kx mk)
    (he : ∀ (s : Shared) (H : Hp) (C : Addr) (cl : List (Str × Addr)) (fp : List Addr), DE β .esc (X.blk s H scope (compEnvC scope cl C X.env) fp) vx me) (hs : ∀ x, foldedSetIterable iter X.env x = pure x := by intro _; rfl) :
    DE β .esc X (.DictComp kx vx [⟨tg, iter, ifs, 0⟩] scope pos) (mDc mi p mt mk me (own.map (·.2))) := de_of_fr (df_dc hc hN hi ok hg ht hk he hs)
/-! ### sorted(d), the keys ints -/
def keysI : List (PyData × PyData) → Option (List Int)
  | [] => some []
  | (.int i, _) :: r => (keysI r).map (i :: ·)
  | _ => none
def dSortDI : List PyData → Option PyData
  | [.dict ps] => (keysI ps).bind fun ks => if ks ≠ [] ∧ ks.length < 64 then some (.list ((srtI ks).map .int)) else none
  | _ => none
theorem keysI_dK : ∀ {kvs : List (Key × V)} {ds : List PyData} {ks : List Int}, kvs.length = ds.length → keysI ((kvs.map fun p => keyD p.1).zip ds) = some ks → kvs.map (·.1) = ks.map Sum.inl
  | [], _, ks, _, h => by cases h; rfl
  | (k, v) :: kvs, [], ks, hl, h => by cases hl
  | (.inl i, v) :: kvs, d :: ds, ks, hl, h => by
    rw [List.map_cons, List.zip_cons_cons] at h
    obtain ⟨ms, h1, rfl⟩ := Option.map_eq_some_iff.mp (show (keysI _).map (i :: ·) = some ks from h)
    rw [List.map_cons, List.map_cons, keysI_dK (by simpa using hl) h1]
  | (.inr x, v) :: kvs, d :: ds, ks, hl, h => by
    rw [List.map_cons, List.zip_cons_cons] at h
    cases h
theorem keysI_dT : ∀ {kvs : List (List Key × V)} {ds : List PyData} {ks : List Int}, kvs.length = ds.length → keysI ((kvs.map fun p => PyData.tuple (p.1.map keyD)).zip ds) = some ks → ks = []
  | [], _, ks, _, h => by cases h; rfl
  | _ :: _, [], _, hl, _ => by cases hl
  | (k, v) :: kvs, d :: ds, ks, hl, h => by
    rw [List.map_cons, List.zip_cons_cons] at h
    cases h
theorem Dx.dict_inv {r : Strg} {F : Fx β} {Ω : AS} {H : Hp} {v : V} {ps : List (PyData × PyData)} (h : Dx r F Ω H v (.dict ps)) :
    (∃ a kvs ds, v = .ref a ∧ Rd H a (.dK kvs) ∧ kvs.length ≤ LB ∧ DvA β Ω H (kvs.map (·.2)) ds ∧ ps = (kvs.map fun p => keyD p.1).zip ds) ∨
    ∃ a kvs ds, v = .ref a ∧ Rd H a (.dT kvs) ∧ kvs.length ≤ LB ∧ DvA β Ω H (kvs.map (·.2)) ds ∧ ps = (kvs.map fun p => PyData.tuple (p.1.map keyD)).zip ds := by
  have of : Dv β Ω H v (.dict ps) → _ := fun h => by
    show (∃ a kvs ds, v = .ref a ∧ Rd H a (.dK kvs) ∧ kvs.length ≤ LB ∧ DvA β Ω H (kvs.map (·.2)) ds ∧ ps = (kvs.map fun p => keyD p.1).zip ds) ∨
      ∃ a kvs ds, v = .ref a ∧ Rd H a (.dT kvs) ∧ kvs.length ≤ LB ∧ DvA β Ω H (kvs.map (·.2)) ds ∧ ps = (kvs.map fun p => PyData.tuple (p.1.map keyD)).zip ds
    cases h with
    | dK h1 h2 h3 h4 => exact .inl ⟨_, _, _, rfl, h1, h3, h4, rfl⟩
    | dT h1 h2 h3 h4 => exact .inr ⟨_, _, _, rfl, h1, h3, h4, rfl⟩
  cases r with
  | esc => exact of h
  | top =>
    rcases h with h | ⟨a, e, _, h⟩
    · exact of h
    · rcases h with ⟨kvs, ds, h1, h2, h3, h4⟩ | ⟨kvs, ds, h1, h2, h3, h4⟩
      · exact .inl ⟨a, kvs, ds, e, .inl h1, h2, h3, h4⟩
      · exact .inr ⟨a, kvs, ds, e, .inl h1, h2, h3, h4⟩
theorem fn_sortDI {r : Strg} : Fn β r (fun xs H Q => ∃ (a : Addr) (kvs : List (Key × V)) (ks : List Int), xs = [.ref a] ∧ Rd H a (.dK kvs) ∧ kvs.map (·.1) = ks.map Sum.inl ∧ ks.length < 64 ∧
    ∀ (ys : List Int) (p : Addr), ys.Perm ks → ys.Pairwise (· ≤ ·) → H p = none → Q (.ref p) (upd H p (.lst (ys.map V.int)))) dSortDI := by
  intro F H Ω σ S w vs ds d Q R hv hg q
  match ds, hg with
  | [.dict ps], hg =>
    obtain ⟨ks, h1, h2⟩ := Option.bind_eq_some_iff.mp (show ((keysI ps).bind fun ks => if ks ≠ [] ∧ ks.length < 64 then some (PyData.list ((srtI ks).map .int)) else none) = some d from hg)
    obtain ⟨⟨h3, h4⟩, rfl⟩ := ite_some h2
    obtain ⟨v, rfl, hx⟩ := hv.one
    rcases hx.dict_inv with ⟨a, kvs, es, rfl, k1, k2, k3, rfl⟩ | ⟨a, kvs, es, rfl, k1, k2, k3, rfl⟩
    · have hl : kvs.length = es.length := by have := k3.length; rw [List.length_map] at this; exact this
      refine ⟨a, kvs, ks, rfl, k1, keysI_dK hl h1, h4, fun ys p hp hs hn => ?_⟩
      have e3 : ys = srtI ks := srt_one (hp.trans (srtI_perm ks).symm) hs (srtI_le ks)
      subst e3
      obtain ⟨e1, dv⟩ := new_lst R (DvA.ofInts (srtI ks)) (by rw [List.length_map, (srtI_perm ks).length_eq]; exact Nat.le_trans (Nat.le_of_lt h4) (by decide)) hn
      exact q _ _ e1 dv
    · have hl : kvs.length = es.length := by have := k3.length; rw [List.length_map] at this; exact this
      exact absurd (keysI_dT hl h1) h3
end
end Mini


set_option Elab.async false
set_option linter.all false
set_option maxRecDepth 100000
set_option maxHeartbeats 4000000
set_option exponentiation.threshold 10000
/-! Mini Q: what the models of the shared defs answer, plain. -/
namespace Mini
open PySem PySem.Spec PyProof.Rows L2

def mDraw : MS := (sSeq (sIf (mAnd (mB (m2 dEq (mSt 0 3) (mC (.int 0)))) (mB (m2 dLt (mSt 0 1) (mStLen 0))))
    (sSt3 0 2 3 1 (mCons (mStCell 0 (mSt 0 1)) (mCons (mC (.int 60)) (mCons (m2 dAdd (mSt 0 1) (mC (.int 1))) mNil)))) sNx)
    (sSeq (sIf (mB (m2 dGt (mSt 0 3) (mC (.int 0))))
    (sSeq (sAsg (m2 dMod (mF dInt (mCons (mSt 0 2) mNil)) (mLook 1)) (pName 2))
    (sSeq (sSt 0 2 (m2 dDiv (mSt 0 2) (mLook 1)))
    (sSeq (sSt 0 3 (mIte (mB (m2 dGt (mSt 0 2) (mC (.int 0)))) (m2 dSub (mSt 0 3) (mC (.int 1))) (mC (.int 0))))
    (sRet (mLook 2))))) sNx)
    (sSeq (sSt 0 5 (m2 dAdd (mSt 0 5) (mC (.int 1))))
    (sSeq (sSt 0 4 (m2 dMod (mF dInt (mCons (m2 dAdd (m2 dAdd (m2 dMul (mSt 0 4) (mC (.int 48271))) (m2 dMul (m2 dMul (mSt 0 5) (mSt 0 5)) (mC (.int 69621)))) (mC (.int 11))) mNil)) (mC (.int 2147483647))))
    (sRet (m2 dMod (mF dInt (mCons (m2 dDiv (mSt 0 4) (mC (.int 13))) mNil)) (mLook 1)))))))
theorem eqv_int (i j : Int) : PyData.eqv (.int i) (.int j) = (i == j) := by simp [PyData.eqv]
theorem dEq_int (i j : Int) : dEq (.int i) (.int j) = some (.bool (decide (i = j))) := by
  unfold dEq
  rw [if_pos ⟨rfl, rfl⟩, eqv_int]
  by_cases h : i = j
  · simp [h]
  · simp [h]
theorem dNe_int (i j : Int) : dNe (.int i) (.int j) = some (.bool (!decide (i = j))) := by
  unfold dNe
  rw [if_pos ⟨rfl, rfl⟩, eqv_int]
  by_cases h : i = j
  · simp [h]
  · simp [h]
/-- the second half: the draw from what is there -/
def mDrawB : MS := (sSeq (sIf (mB (m2 dGt (mSt 0 3) (mC (.int 0))))
    (sSeq (sAsg (m2 dMod (mF dInt (mCons (mSt 0 2) mNil)) (mLook 1)) (pName 2))
    (sSeq (sSt 0 2 (m2 dDiv (mSt 0 2) (mLook 1)))
    (sSeq (sSt 0 3 (mIte (mB (m2 dGt (mSt 0 2) (mC (.int 0)))) (m2 dSub (mSt 0 3) (mC (.int 1))) (mC (.int 0))))
    (sRet (mLook 2))))) sNx)
    (sSeq (sSt 0 5 (m2 dAdd (mSt 0 5) (mC (.int 1))))
    (sSeq (sSt 0 4 (m2 dMod (mF dInt (mCons (m2 dAdd (m2 dAdd (m2 dMul (mSt 0 4) (mC (.int 48271))) (m2 dMul (m2 dMul (mSt 0 5) (mSt 0 5)) (mC (.int 69621)))) (mC (.int 11))) mNil)) (mC (.int 2147483647))))
    (sRet (m2 dMod (mF dInt (mCons (m2 dDiv (mSt 0 4) (mC (.int 13))) mNil)) (mLook 1))))))
theorem Drw.In.mono {w : Drw} {n m : Nat} (h : w.In n) (hm : n ≤ m) : w.In m := ⟨h.ok, by have := h.few; omega⟩
theorem drawB {w : Drw} {n : Nat} (h : w.In n) (hn : n < 2 ^ 61) {many : Int} (h1 : 0 < many) (h2 : many ≤ 1000000) : ∃ r w' S', mDrawB [.stt, .val (.int many), .no] w = some (.rt (.int r), S', w') ∧ 0 ≤ r ∧ r < many ∧ w'.In (n + 1) := by
  have hb : many.natAbs < bigN := Nat.lt_of_lt_of_le (show many.natAbs < 2 ^ 20 by omega) (Nat.pow_le_pow_right (by decide) (by decide))
  obtain ⟨ok, few⟩ := h
  by_cases hl : 0 < w.left
  · have c0 := ok.cur0
    have q0 : 0 ≤ w.cur / many := Int.ediv_nonneg c0 (Int.le_of_lt h1)
    have q1 : w.cur / many ≤ w.cur := Int.ediv_le_self _ c0
    refine ⟨w.cur % many, if 0 < w.cur / many then { w with cur := w.cur / many, left := w.left - 1 } else { w with cur := w.cur / many, left := 0 }, [.stt, .val (.int many), .val (.int (w.cur % many))], ?_, Int.emod_nonneg _ (by omega), Int.emod_lt_of_pos _ h1, ?_⟩
    · have a1 := ok.left1
      by_cases hz : 0 < w.cur / many
      · simp only [mDrawB, runM, runS, env0, flD, cal, sSeq, sIf, sRet, sRetN, sDrop, sAsg, sOwn, sFrz, frz, sPar, sPar3, sNx, sNo, sBk, sCt, sApp, sExt, sSetIx, sAug, sFor, sWhile, m1, m2, mC, mVar, mLook, mAnd, mOr, mNot, mIte, mB, mV, mTru, dTru, mAndV, mOrV, mNotV, mNil, mCons, mTup, mLst, mF, mFS, mItems, mRng, mRng1, mRng2, mRng3, dRng1, dRng2, dRng3, mEnum, mZip, mCut, mNoP, mPt, mRev, mNeg, dNeg, dRev, dCut, mLc, mYes, pName, pTup, pNil, pCons, wipeS, dAdd, dSub, dMul, dDiv, dMod, dMulI, dAddI, dCmp, dIsN, dNotN, isNone, dLenX, dLen, seqOf, dAbs, dMax2, dMin2, dInt, dTuple, dList, dCatL, dRepL, mSt, mStLen, mStCell, sSt, sSt3, drwGet, drwSet, mCh2, mCh3, mCount, dCount, Option.bind_some, Option.map_some, Option.bind_none, Option.map_none, List.getElem?_cons_zero, List.getElem?_cons_succ, List.set_cons_zero, List.set_cons_succ, List.map_cons, List.map_nil, List.cons_append, List.nil_append, List.replicate_succ, List.replicate_zero, List.length_cons, List.length_nil, if_true, if_false, reduceIte, Bool.false_eq_true, Bool.not_true, Bool.not_false, decide_true, decide_false, hl, h1, hb, q0, q1, hz, and_self, true_or, decide_true]
        rw [if_pos (by omega)]
        rfl
      · simp only [mDrawB, runM, runS, env0, flD, cal, sSeq, sIf, sRet, sRetN, sDrop, sAsg, sOwn, sFrz, frz, sPar, sPar3, sNx, sNo, sBk, sCt, sApp, sExt, sSetIx, sAug, sFor, sWhile, m1, m2, mC, mVar, mLook, mAnd, mOr, mNot, mIte, mB, mV, mTru, dTru, mAndV, mOrV, mNotV, mNil, mCons, mTup, mLst, mF, mFS, mItems, mRng, mRng1, mRng2, mRng3, dRng1, dRng2, dRng3, mEnum, mZip, mCut, mNoP, mPt, mRev, mNeg, dNeg, dRev, dCut, mLc, mYes, pName, pTup, pNil, pCons, wipeS, dAdd, dSub, dMul, dDiv, dMod, dMulI, dAddI, dCmp, dIsN, dNotN, isNone, dLenX, dLen, seqOf, dAbs, dMax2, dMin2, dInt, dTuple, dList, dCatL, dRepL, mSt, mStLen, mStCell, sSt, sSt3, drwGet, drwSet, mCh2, mCh3, mCount, dCount, Option.bind_some, Option.map_some, Option.bind_none, Option.map_none, List.getElem?_cons_zero, List.getElem?_cons_succ, List.set_cons_zero, List.set_cons_succ, List.map_cons, List.map_nil, List.cons_append, List.nil_append, List.replicate_succ, List.replicate_zero, List.length_cons, List.length_nil, if_true, if_false, reduceIte, Bool.false_eq_true, Bool.not_true, Bool.not_false, decide_true, decide_false, hl, h1, hb, q0, q1, hz, and_self, true_or, decide_true, decide_false]
        rfl
    · split
      · exact ⟨{ ok with cur0 := q0, cur1 := Nat.lt_of_le_of_lt (show (w.cur / many).natAbs ≤ w.cur.natAbs by omega) ok.cur1, left0 := (show (0 : Int) ≤ w.left - 1 by omega), left1 := (show w.left - 1 ≤ 60 by have := ok.left1; omega) }, by show w.cnt ≤ _; omega⟩
      · exact ⟨{ ok with cur0 := q0, cur1 := Nat.lt_of_le_of_lt (show (w.cur / many).natAbs ≤ w.cur.natAbs by omega) ok.cur1, left0 := Int.le_refl 0, left1 := (by decide : (0 : Int) ≤ 60) }, by show w.cnt ≤ _; omega⟩
  · have c0 := ok.cnt0
    have c1 := ok.cnt1
    have s0 := ok.seed0
    have s1 := ok.seed1
    let sd : Int := (w.seed * 48271 + (w.cnt + 1) * (w.cnt + 1) * 69621 + 11) % 2147483647
    have d0 : 0 ≤ sd := Int.emod_nonneg _ (by decide)
    have d1 : sd < 2147483647 := Int.emod_lt_of_pos _ (by decide)
    have k1 : (0 : Int) ≤ w.cnt + 1 ∧ w.cnt + 1 < 2 ^ 62 := ⟨by omega, by omega⟩
    have m1 : mulOk w.seed 48271 := .inr (.inl (by decide))
    have m2' : mulOk (w.cnt + 1) (w.cnt + 1) := .inl (by omega)
    have m3 : mulOk ((w.cnt + 1) * (w.cnt + 1)) 69621 := .inr (.inl (by decide))
    have hd : (0 : Int) ≤ (w.seed * 48271 + (w.cnt + 1) * (w.cnt + 1) * 69621 + 11) % 2147483647 ∧ (w.seed * 48271 + (w.cnt + 1) * (w.cnt + 1) * 69621 + 11) % 2147483647 < 2147483647 := ⟨d0, d1⟩
    have b13 : (0 : Int) < 13 ∧ (13 : Int).natAbs < bigN := ⟨by decide, Nat.lt_of_lt_of_le (show (13 : Int).natAbs < 2 ^ 20 by decide) (Nat.pow_le_pow_right (by decide) (by decide))⟩
    have p2 : (0 : Int) < 2147483647 := by decide
    refine ⟨sd / 13 % many, { w with cnt := w.cnt + 1, seed := sd }, [.stt, .val (.int many), .no], ?_, Int.emod_nonneg _ (by omega), Int.emod_lt_of_pos _ h1, ⟨{ ok with seed0 := d0, seed1 := d1, cnt0 := k1.1, cnt1 := k1.2 }, by show w.cnt + 1 ≤ _; omega⟩⟩
    simp only [mDrawB, runM, runS, env0, flD, cal, sSeq, sIf, sRet, sRetN, sDrop, sAsg, sOwn, sFrz, frz, sPar, sPar3, sNx, sNo, sBk, sCt, sApp, sExt, sSetIx, sAug, sFor, sWhile, m1, m2, mC, mVar, mLook, mAnd, mOr, mNot, mIte, mB, mV, mTru, dTru, mAndV, mOrV, mNotV, mNil, mCons, mTup, mLst, mF, mFS, mItems, mRng, mRng1, mRng2, mRng3, dRng1, dRng2, dRng3, mEnum, mZip, mCut, mNoP, mPt, mRev, mNeg, dNeg, dRev, dCut, mLc, mYes, pName, pTup, pNil, pCons, wipeS, dAdd, dSub, dMul, dDiv, dMod, dMulI, dAddI, dCmp, dIsN, dNotN, isNone, dLenX, dLen, seqOf, dAbs, dMax2, dMin2, dInt, dTuple, dList, dCatL, dRepL, mSt, mStLen, mStCell, sSt, sSt3, drwGet, drwSet, mCh2, mCh3, mCount, dCount, Option.bind_some, Option.map_some, Option.bind_none, Option.map_none, List.getElem?_cons_zero, List.getElem?_cons_succ, List.set_cons_zero, List.set_cons_succ, List.map_cons, List.map_nil, List.cons_append, List.nil_append, List.replicate_succ, List.replicate_zero, List.length_cons, List.length_nil, if_true, if_false, reduceIte, Bool.false_eq_true, Bool.not_true, Bool.not_false, decide_true, decide_false, hl, if_pos k1, if_pos m1, if_pos m2', if_pos m3, if_pos hd, if_pos b13, if_pos p2, if_pos h1]
    rfl
theorem ixN_nat {n k : Nat} (h : k < n) : ixN n (k : Int) = some k := by
  unfold ixN
  rw [if_pos (by omega), if_pos (by omega)]
  simp
theorem draw_ok {w : Drw} {n : Nat} (h : w.In n) (hn : n < 2 ^ 61) {many : Int} (h1 : 0 < many) (h2 : many ≤ 1000000) : ∃ r w', runS 1 mDraw [.int many] w = some (.int r, w') ∧ 0 ≤ r ∧ r < many ∧ w'.In (n + 1) := by
  have key : ∃ w2 : Drw, w2.In n ∧ mDraw [.stt, .val (.int many), .no] w = mDrawB [.stt, .val (.int many), .no] w2 := by
    by_cases c : w.left = 0 ∧ w.at_ < (w.cells.length : Int)
    · obtain ⟨c1, c2⟩ := c
      have a0 := h.ok.at0
      have len := h.ok.len
      obtain ⟨k, hk⟩ : ∃ k : Nat, w.at_ = (k : Int) := ⟨w.at_.toNat, by omega⟩
      have hk2 : k < w.cells.length := by omega
      have hat : atI w.cells w.at_ = some w.cells[k] := by
        unfold atI
        rw [hk, ixN_nat hk2]
        exact List.getElem?_eq_getElem hk2
      have hbig := h.ok.big w.cells[k] (List.getElem_mem hk2)
      refine ⟨{ w with cur := w.cells[k], left := 60, at_ := w.at_ + 1 }, ⟨{ h.ok with cur0 := hbig.1, cur1 := hbig.2, left0 := (by decide : (0 : Int) ≤ 60), left1 := (by decide : (60 : Int) ≤ 60), at0 := (show (0 : Int) ≤ w.at_ + 1 by omega), at1 := (show w.at_ + 1 ≤ 63 by omega) }, h.few⟩, ?_⟩
      have e1 : (0 : Int) ≤ w.cells[k] ∧ (w.cells[k] ≤ w.cur ∨ w.cells[k] ∈ w.cells) := ⟨hbig.1, .inr (List.getElem_mem hk2)⟩
      have e2 : (0 : Int) ≤ w.at_ + 1 ∧ w.at_ + 1 ≤ 63 := ⟨by omega, by omega⟩
      have e3 : (0 : Int) ≤ 60 ∧ (60 : Int) ≤ 60 := by decide
      show sSeq _ mDrawB _ _ = _
      simp only [runM, runS, env0, flD, cal, sSeq, sIf, sRet, sRetN, sDrop, sAsg, sOwn, sFrz, frz, sPar, sPar3, sNx, sNo, sBk, sCt, sApp, sExt, sSetIx, sAug, sFor, sWhile, m1, m2, mC, mVar, mLook, mAnd, mOr, mNot, mIte, mB, mV, mTru, dTru, mAndV, mOrV, mNotV, mNil, mCons, mTup, mLst, mF, mFS, mItems, mRng, mRng1, mRng2, mRng3, dRng1, dRng2, dRng3, mEnum, mZip, mCut, mNoP, mPt, mRev, mNeg, dNeg, dRev, dCut, mLc, mYes, pName, pTup, pNil, pCons, wipeS, dAdd, dSub, dMul, dDiv, dMod, dMulI, dAddI, dCmp, dIsN, dNotN, isNone, dLenX, dLen, seqOf, dAbs, dMax2, dMin2, dInt, dTuple, dList, dCatL, dRepL, mSt, mStLen, mStCell, sSt, sSt3, drwGet, drwSet, mCh2, mCh3, mCount, dCount, Option.bind_some, Option.map_some, Option.bind_none, Option.map_none, List.getElem?_cons_zero, List.getElem?_cons_succ, List.set_cons_zero, List.set_cons_succ, List.map_cons, List.map_nil, List.cons_append, List.nil_append, List.replicate_succ, List.replicate_zero, List.length_cons, List.length_nil, if_true, if_false, reduceIte, Bool.false_eq_true, Bool.not_true, Bool.not_false, decide_true, decide_false, dEq_int, c1, decide_true, c2, hat, if_pos e1, if_pos e2, if_pos e3]
    · refine ⟨w, h, ?_⟩
      show sSeq _ mDrawB _ _ = _
      by_cases c1 : w.left = 0
      · have c2 : ¬ w.at_ < (w.cells.length : Int) := fun z => c ⟨c1, z⟩
        simp only [runM, runS, env0, flD, cal, sSeq, sIf, sRet, sRetN, sDrop, sAsg, sOwn, sFrz, frz, sPar, sPar3, sNx, sNo, sBk, sCt, sApp, sExt, sSetIx, sAug, sFor, sWhile, m1, m2, mC, mVar, mLook, mAnd, mOr, mNot, mIte, mB, mV, mTru, dTru, mAndV, mOrV, mNotV, mNil, mCons, mTup, mLst, mF, mFS, mItems, mRng, mRng1, mRng2, mRng3, dRng1, dRng2, dRng3, mEnum, mZip, mCut, mNoP, mPt, mRev, mNeg, dNeg, dRev, dCut, mLc, mYes, pName, pTup, pNil, pCons, wipeS, dAdd, dSub, dMul, dDiv, dMod, dMulI, dAddI, dCmp, dIsN, dNotN, isNone, dLenX, dLen, seqOf, dAbs, dMax2, dMin2, dInt, dTuple, dList, dCatL, dRepL, mSt, mStLen, mStCell, sSt, sSt3, drwGet, drwSet, mCh2, mCh3, mCount, dCount, Option.bind_some, Option.map_some, Option.bind_none, Option.map_none, List.getElem?_cons_zero, List.getElem?_cons_succ, List.set_cons_zero, List.set_cons_succ, List.map_cons, List.map_nil, List.cons_append, List.nil_append, List.replicate_succ, List.replicate_zero, List.length_cons, List.length_nil, if_true, if_false, reduceIte, Bool.false_eq_true, Bool.not_true, Bool.not_false, decide_true, decide_false, dEq_int, c1, decide_true, c2, decide_false]
      · simp only [runM, runS, env0, flD, cal, sSeq, sIf, sRet, sRetN, sDrop, sAsg, sOwn, sFrz, frz, sPar, sPar3, sNx, sNo, sBk, sCt, sApp, sExt, sSetIx, sAug, sFor, sWhile, m1, m2, mC, mVar, mLook, mAnd, mOr, mNot, mIte, mB, mV, mTru, dTru, mAndV, mOrV, mNotV, mNil, mCons, mTup, mLst, mF, mFS, mItems, mRng, mRng1, mRng2, mRng3, dRng1, dRng2, dRng3, mEnum, mZip, mCut, mNoP, mPt, mRev, mNeg, dNeg, dRev, dCut, mLc, mYes, pName, pTup, pNil, pCons, wipeS, dAdd, dSub, dMul, dDiv, dMod, dMulI, dAddI, dCmp, dIsN, dNotN, isNone, dLenX, dLen, seqOf, dAbs, dMax2, dMin2, dInt, dTuple, dList, dCatL, dRepL, mSt, mStLen, mStCell, sSt, sSt3, drwGet, drwSet, mCh2, mCh3, mCount, dCount, Option.bind_some, Option.map_some, Option.bind_none, Option.map_none, List.getElem?_cons_zero, List.getElem?_cons_succ, List.set_cons_zero, List.set_cons_succ, List.map_cons, List.map_nil, List.cons_append, List.nil_append, List.replicate_succ, List.replicate_zero, List.length_cons, List.length_nil, if_true, if_false, reduceIte, Bool.false_eq_true, Bool.not_true, Bool.not_false, decide_true, decide_false, dEq_int, c1, decide_false]
  obtain ⟨w2, hw2, e⟩ := key
  obtain ⟨r, w', S', e2, r0, r1, r2⟩ := drawB hw2 hn h1 h2
  refine ⟨r, w', ?_, r0, r1, r2⟩
  show ((mDraw [.stt, .val (.int many), .no] w).bind fun r => (flD r.1).map fun d => (d, r.2.2)) = _
  rw [e, e2]
  rfl

/-! ### ranges, loops -/
theorem rngD_succ (lo c : Int) (n : Nat) : rngD lo c (n + 1) = .int lo :: rngD (lo + c) c n := by
  unfold rngD
  rw [List.range_succ_eq_map, List.map_cons, List.map_map]
  congr 1
  · simp
  · refine List.map_congr_left fun k _ => ?_
    simp only [Function.comp]
    congr 1
    rw [Nat.succ_eq_add_one, Int.natCast_add, Int.add_mul]
    omega
theorem rngD_zero (lo c : Int) : rngD lo c 0 = [] := rfl
theorem rngD_last (lo c : Int) (n : Nat) : rngD lo c (n + 1) = rngD lo c n ++ [.int (lo + (n : Nat) * c)] := by
  unfold rngD
  rw [List.range_succ, List.map_append]
  rfl
theorem smallI_of {i : Int} (h1 : -1000000000 ≤ i) (h2 : i ≤ 1000000000) : smallI i = true := decide_eq_true (by omega)
/-- a loop over lo, lo + 1, ..: an invariant by the turn -/
theorem for_rng {p : MG} {b : MS} {n : Nat} {lo : Int} (E : Nat → SEnv) (W : Nat → Drw) (h : ∀ k, k < n → ∃ S1, p (.int (lo + (k : Nat))) (E k) = some S1 ∧ b S1 (W k) = some (.nx, E (k + 1), W (k + 1))) : forGo p b (rngD lo 1 n) (E 0) (W 0) = some (.nx, E n, W n) := by
  induction n generalizing lo E W with
  | zero => rfl
  | succ n ih =>
    obtain ⟨S1, h1, h2⟩ := h 0 (Nat.succ_pos n)
    rw [rngD_succ, forGo_cons]
    have h1' : p (.int lo) (E 0) = some S1 := by simpa using h1
    rw [h1', Option.bind_some, h2, Option.bind_some]
    refine ih (fun k => E (k + 1)) (fun k => W (k + 1)) fun k hk => ?_
    obtain ⟨S2, h3, h4⟩ := h (k + 1) (by omega)
    refine ⟨S2, ?_, h4⟩
    rw [← h3]
    congr 2
    omega
/-- a comprehension without draws -/
theorem lc_map {p : MG} {e : ME} {S : SEnv} {w : Drw} {f : PyData → PyData} : ∀ {ds : List PyData}, (∀ d ∈ ds, ∃ S1, p d S = some S1 ∧ e S1 w = some (f d, w)) → lcGo p mYes e S ds w = some (ds.map f, w)
  | [], _ => rfl
  | d :: ds, h => by
    obtain ⟨S1, h1, h2⟩ := h d List.mem_cons_self
    rw [lcGo_cons, h1, Option.bind_some, show mYes S1 w = some (true, w) from rfl, Option.bind_some, if_pos rfl, h2, Option.bind_some, lc_map fun x hx => h x (List.mem_cons_of_mem _ hx)]
    rfl
theorem lc_filter {p : MG} {t : MT} {e : ME} {S : SEnv} {w : Drw} {f : PyData → PyData} {c : PyData → Bool} : ∀ {ds : List PyData}, (∀ d ∈ ds, ∃ S1, p d S = some S1 ∧ t S1 w = some (c d, w) ∧ (c d = true → e S1 w = some (f d, w))) → lcGo p t e S ds w = some ((ds.filter c).map f, w)
  | [], _ => rfl
  | d :: ds, h => by
    obtain ⟨S1, h1, h2, h3⟩ := h d List.mem_cons_self
    rw [lcGo_cons, h1, Option.bind_some, h2, Option.bind_some]
    cases hc : c d with
    | true =>
      rw [if_pos rfl, h3 hc, Option.bind_some, lc_filter fun x hx => h x (List.mem_cons_of_mem _ hx), List.filter_cons_of_pos hc]
      rfl
    | false =>
      rw [if_neg Bool.false_ne_true, lc_filter fun x hx => h x (List.mem_cons_of_mem _ hx), List.filter_cons_of_neg (by rw [hc]; exact Bool.false_ne_true)]
/-- ints in, over a range -/
theorem lc_rng {p : MG} {e : ME} {S : SEnv} {w : Drw} {lo : Int} {n : Nat} {f : Int → PyData} (h : ∀ k : Nat, k < n → ∃ S1, p (.int (lo + (k : Nat))) S = some S1 ∧ e S1 w = some (f (lo + (k : Nat)), w)) : lcGo p mYes e S (rngD lo 1 n) w = some ((List.range n).map (fun (k : Nat) => f (lo + (k : Nat))), w) := by
  induction n generalizing lo with
  | zero => rfl
  | succ n ih =>
    obtain ⟨S1, h1, h2⟩ := h 0 (Nat.succ_pos n)
    rw [rngD_succ, lcGo_cons]
    have z : lo + ((0 : Nat) : Int) = lo := by simp
    rw [z] at h1 h2
    rw [h1, Option.bind_some, show mYes S1 w = some (true, w) from rfl, Option.bind_some, if_pos rfl, h2, Option.bind_some, ih fun k hk => ?_]
    · rw [List.range_succ_eq_map, List.map_cons, List.map_map, z]
      show some (_, _) = _
      congr 3
      refine List.map_congr_left fun k _ => ?_
      simp only [Function.comp]
      congr 1
      omega
    · obtain ⟨S2, h3, h4⟩ := h (k + 1) (by omega)
      have e1 : lo + ((k + 1 : Nat) : Int) = lo + 1 + (k : Nat) := by omega
      rw [e1] at h3 h4
      exact ⟨S2, h3, h4⟩
theorem lc_rngF {p : MG} {t : MT} {e : ME} {S : SEnv} {w : Drw} {lo : Int} {n : Nat} {c : Int → Bool} {f : Int → PyData} (h : ∀ k : Nat, k < n → ∃ S1, p (.int (lo + (k : Nat))) S = some S1 ∧ t S1 w = some (c (lo + (k : Nat)), w) ∧ (c (lo + (k : Nat)) = true → e S1 w = some (f (lo + (k : Nat)), w))) :
    lcGo p t e S (rngD lo 1 n) w = some ((((List.range n).map fun (k : Nat) => lo + (k : Nat)).filter c).map f, w) := by
  induction n generalizing lo with
  | zero => rfl
  | succ n ih =>
    obtain ⟨S1, h1, h2, h3⟩ := h 0 (Nat.succ_pos n)
    have z : lo + ((0 : Nat) : Int) = lo := by simp
    rw [z] at h1 h2 h3
    have hr : (List.range (n + 1)).map (fun (k : Nat) => lo + (k : Nat)) = lo :: (List.range n).map fun (k : Nat) => lo + 1 + (k : Nat) := by
      rw [List.range_succ_eq_map, List.map_cons, List.map_map, z]
      congr 1
      refine List.map_congr_left fun k _ => ?_
      simp only [Function.comp]
      omega
    have ih' := ih (lo := lo + 1) fun k hk => by
      have hh := h (k + 1) (by omega)
      have e1 : lo + ((k + 1 : Nat) : Int) = lo + 1 + (k : Nat) := by omega
      rw [e1] at hh
      exact hh
    rw [rngD_succ, lcGo_cons, h1, Option.bind_some, h2, Option.bind_some, hr]
    cases hc : c lo with
    | true =>
      rw [if_pos rfl, h3 hc, Option.bind_some, ih', List.filter_cons_of_pos hc]
      rfl
    | false =>
      rw [if_neg Bool.false_ne_true, ih', List.filter_cons_of_neg (by rw [hc]; exact Bool.false_ne_true)]
/-! ### indices -/
theorem ix_nat {xs : List PyData} {k : Nat} (h : k < xs.length) : dIx (.list xs) (.int (k : Int)) = some xs[k] := by
  show atI xs (k : Int) = _
  unfold atI
  rw [ixN_nat h]
  exact List.getElem?_eq_getElem h
theorem ixT_nat {xs : List PyData} {k : Nat} (h : k < xs.length) : dIx (.tuple xs) (.int (k : Int)) = some xs[k] := by
  show atI xs (k : Int) = _
  unfold atI
  rw [ixN_nat h]
  exact List.getElem?_eq_getElem h
theorem ix_ints {R : List Int} {k : Nat} (h : k < R.length) : dIx (.list (R.map .int)) (.int (k : Int)) = some (.int (R.getD k 0)) := by
  rw [ix_nat (by rw [List.length_map]; exact h), List.getElem_map, List.getD_eq_getElem?_getD, List.getElem?_eq_getElem h]
  rfl
theorem ixT_ints {R : List Int} {k : Nat} (h : k < R.length) : dIx (.tuple (R.map .int)) (.int (k : Int)) = some (.int (R.getD k 0)) := by
  rw [ixT_nat (by rw [List.length_map]; exact h), List.getElem_map, List.getD_eq_getElem?_getD, List.getElem?_eq_getElem h]
  rfl
/-- the last -/
theorem ix_last {xs : List PyData} {d : PyData} : dIx (.list (xs ++ [d])) (.int (-1)) = some d := by
  show atI (xs ++ [d]) (-1) = _
  exact atI_last _ _
theorem ixT_last {xs : List PyData} {d : PyData} : dIx (.tuple (xs ++ [d])) (.int (-1)) = some d := by
  show atI (xs ++ [d]) (-1) = _
  exact atI_last _ _
theorem mulOk_r {i j : Int} (h1 : 0 ≤ j) (h2 : j < 2 ^ 64) : mulOk i j := .inr (.inl (by omega))
theorem mulOk_l {i j : Int} (h1 : 0 ≤ i) (h2 : i < 2 ^ 64) : mulOk i j := .inl (by omega)
/-- good factors: below 2 ^ 8999 -/
def bigZ : Int := 2 ^ 9000
theorem bigZ_nat {i : Int} (h1 : 0 ≤ i) (h2 : i < bigZ) : i.natAbs < bigN := by
  unfold bigZ at h2
  have e : ((bigN : Nat) : Int) = 2 ^ 9000 := by unfold bigN; exact Int.natCast_pow 2 9000
  rw [← e] at h2
  omega
theorem mulOk_b {i j : Int} (h1 : 0 ≤ i) (h2 : i < bigZ) (h3 : 0 ≤ j) (h4 : j < bigZ) : mulOk i j := .inr (.inr ⟨bigZ_nat h1 h2, bigZ_nat h3 h4⟩)
theorem small_bigZ {i : Int} (h : i < 2 ^ 64) : i < bigZ := Int.lt_of_lt_of_le h (by
  unfold bigZ
  have h1 : (2 : Nat) ^ 64 ≤ 2 ^ 9000 := Nat.pow_le_pow_right (by decide) (by decide)
  have e1 : ((2 ^ 64 : Nat) : Int) = 2 ^ 64 := Int.natCast_pow 2 64
  have e2 : ((2 ^ 9000 : Nat) : Int) = 2 ^ 9000 := Int.natCast_pow 2 9000
  rw [← e1, ← e2]
  exact Int.ofNat_le.mpr h1)
theorem dMul_of {i j : Int} (h : mulOk i j) : dMul (.int i) (.int j) = some (.int (i * j)) := if_pos h
theorem dDiv_of {i j : Int} (h : 0 < j) (h2 : j < bigZ) : dDiv (.int i) (.int j) = some (.int (i / j)) := if_pos ⟨h, bigZ_nat (Int.le_of_lt h) h2⟩
theorem dMod_of {i j : Int} (h : 0 < j) : dMod (.int i) (.int j) = some (.int (i % j)) := if_pos h
/-! ### Euclid -/
theorem euclid {T : MT} {B : MS} {mk : Int → Int → SEnv} {w : Drw} {M : Int} (hT : ∀ a b, T (mk a b) w = some (b != 0, w)) (hB : ∀ a b, 0 ≤ a → a < M → 0 < b → b < M → B (mk a b) w = some (.nx, mk b (a % b), w)) :
    ∀ (k n : Nat) (a b : Int), 0 ≤ a → a < M → 0 ≤ b → b < M → b < 2 ^ k → 2 * k + 1 ≤ n → whGo T B n (mk a b) w = some (.nx, mk (Int.gcd a b) 0, w) := by
  have stop : ∀ (n : Nat) (a : Int), 0 ≤ a → 1 ≤ n → whGo T B n (mk a 0) w = some (.nx, mk (Int.gcd a 0) 0, w) := fun n a ha hn => by
    obtain ⟨m, rfl⟩ : ∃ m, n = m + 1 := ⟨n - 1, by omega⟩
    rw [whGo_succ, hT, Option.bind_some]
    have e : ((0 : Int) != 0) = false := by decide
    rw [e, if_neg Bool.false_ne_true, Int.gcd_zero_right, Int.natAbs_of_nonneg ha]
  have step : ∀ (n : Nat) (a b : Int), 0 ≤ a → a < M → 0 < b → b < M → whGo T B (n + 1) (mk a b) w = whGo T B n (mk b (a % b)) w := fun n a b ha haM hb hbM => by
    rw [whGo_succ, hT, Option.bind_some]
    have e : (b != 0) = true := by simp; omega
    rw [e, if_pos rfl, hB a b ha haM hb hbM, Option.bind_some]
  have gcd_step : ∀ a b : Int, 0 ≤ a → 0 ≤ b → Int.gcd a b = Int.gcd b (a % b) := fun a b ha hb => by
    obtain ⟨m, rfl⟩ := Int.eq_ofNat_of_zero_le ha
    obtain ⟨n, rfl⟩ := Int.eq_ofNat_of_zero_le hb
    show Nat.gcd m n = Nat.gcd n (m % n)
    rw [Nat.gcd_comm m n, Nat.gcd_rec n m, Nat.gcd_comm]
  intro k
  induction k with
  | zero =>
    intro n a b ha haM hb hbM hk hn
    have e : b = 0 := by
      have : (2 : Int) ^ 0 = 1 := rfl
      omega
    subst e
    exact stop n a ha (by omega)
  | succ k ih =>
    intro n a b ha haM hb hbM hk hn
    by_cases h0 : b = 0
    · subst h0; exact stop n a ha (by omega)
    · have hb' : 0 < b := by omega
      obtain ⟨m, rfl⟩ : ∃ m, n = m + 2 := ⟨n - 2, by omega⟩
      rw [step (m + 1) a b ha haM hb' hbM, gcd_step a b ha hb]
      have r0 : 0 ≤ a % b := Int.emod_nonneg _ (by omega)
      have r1 : a % b < b := Int.emod_lt_of_pos _ hb'
      by_cases h1 : a % b = 0
      · rw [h1]; exact stop (m + 1) b hb (by omega)
      · have hr : 0 < a % b := by omega
        rw [step m b (a % b) hb hbM hr (by omega), gcd_step b (a % b) hb r0]
        have s0 : 0 ≤ b % (a % b) := Int.emod_nonneg _ (by omega)
        have s1 : b % (a % b) < a % b := Int.emod_lt_of_pos _ hr
        have s2 : a % b + b % (a % b) ≤ b := by
          have q := Int.mul_ediv_add_emod b (a % b)
          have q1 : 1 ≤ b / (a % b) := by
            have := (Int.le_ediv_iff_mul_le (a := 1) (b := b) hr).mpr (by omega)
            exact this
          have q2 : a % b * 1 ≤ a % b * (b / (a % b)) := Int.mul_le_mul_of_nonneg_left q1 r0
          omega
        refine ih m (a % b) (b % (a % b)) r0 (by omega) s0 (by omega) ?_ (by omega)
        have e2 : (2 : Int) ^ (k + 1) = 2 ^ k * 2 := Int.pow_succ 2 k
        omega
end Mini

set_option Elab.async false
set_option linter.all false
set_option maxRecDepth 100000
set_option maxHeartbeats 4000000
namespace K70
open PySem PySem.Spec PyProof.Rows L2 Mini
def m_is_integer : MS := (sRet (mAndV (mIsi "int" (mLook 0)) (mV (mNot (mTru (mIsi "bool" (mLook 0)))))))
def G_is_integer : List PyData → Option PyData := runM 0 m_is_integer
def m_check_dies : MS := (sIf (mOr (mNot (mTru (mF (cal 1 G_is_integer) (mCons (mVar 0) mNil)))) (mNot (mB (mCh2 dLe dLe (mC (.int 1)) (mLook 0) (mC (.int 40))))))
    sNo sNx)
def G_check_dies : List PyData → Option PyData := runM 0 m_check_dies
def m_check_coins : MS := (sIf (mOr (mNot (mTru (mF (cal 1 G_is_integer) (mCons (mVar 0) mNil)))) (mNot (mB (mCh2 dLe dLe (mC (.int 0)) (mLook 0) (mC (.int 60))))))
    sNo sNx)
def G_check_coins : List PyData → Option PyData := runM 0 m_check_coins
def m_ways_table : MS := (sSeq (sAsg (m2 dAdd (mLst (mCons (mC (.int 1)) mNil)) (m2 dMul (mLst (mCons (mC (.int 0)) mNil)) (mLook 0))) (pName 2))
    (sSeq (sAsg (mC (.int 1)) (pName 3))
    (sSeq (sFor (mRng1 (mCons (mVar 1) mNil)) (pName 4)
    (sSeq (sAsg (mLc (mRng1 (mCons (m2 dAdd (mLook 0) (mC (.int 1))) mNil)) (pName 5) mYes (m2 dAdd (m2 dMul (m2 dIx (mLook 2) (mLook 5)) (mLook 5)) (mIte (mTru (mLook 5)) (m2 dMul (m2 dIx (mLook 2) (m2 dSub (mLook 5) (mC (.int 1)))) (m2 dAdd (m2 dSub (mLook 0) (mLook 5)) (mC (.int 1)))) (mC (.int 0)))) [5]) (pName 2))
    (sAug dMulI 3 (mLook 0))))
    (sRet (mTup (mCons (mVar 2) (mCons (mVar 3) mNil)))))))
def G_ways_table : List PyData → Option PyData := runM 4 m_ways_table
def m_quotient : MS := (sSeq (sPar 2 3 (mCons (mVar 0) (mCons (mVar 1) mNil)))
    (sSeq (sWhile 100000 (mTru (mLook 3))
    (sPar 2 3 (mCons (mVar 3) (mCons (m2 dMod (mLook 2) (mLook 3)) mNil))))
    (sRet (mTup (mCons (m2 dDiv (mLook 0) (mLook 2)) (mCons (m2 dDiv (mLook 1) (mLook 2)) mNil))))))
def G_quotient : List PyData → Option PyData := runM 2 m_quotient
def m_chances_seen : MS := (sSeq (sDrop (mF (fun ds => if ds.length + [PyData.str "dies"].length = 2 then G_check_dies (ds ++ [PyData.str "dies"]) else none) (mCons (mVar 0) mNil)))
    (sSeq (sDrop (mF (cal 1 G_check_coins) (mCons (mVar 1) mNil)))
    (sSeq (sAsg (mF (cal 2 G_ways_table) (mCons (mVar 0) (mCons (mVar 1) mNil))) (pTup (pCons (pName 2) (pCons (pName 3) pNil))))
    (sRet (mF dTuple (mCons (mLc (mItems (mLook 2)) (pName 4) mYes (mF (cal 2 G_quotient) (mCons (mVar 4) (mCons (mVar 3) mNil))) [4]) mNil))))))
def G_chances_seen : List PyData → Option PyData := runM 3 m_chances_seen
def m_L_draw : MS := (sSeq (sIf (mAnd (mB (m2 dEq (mSt 0 3) (mC (.int 0)))) (mB (m2 dLt (mSt 0 1) (mStLen 0))))
    (sSt3 0 2 3 1 (mCons (mStCell 0 (mSt 0 1)) (mCons (mC (.int 60)) (mCons (m2 dAdd (mSt 0 1) (mC (.int 1))) mNil)))) sNx)
    (sSeq (sIf (mB (m2 dGt (mSt 0 3) (mC (.int 0))))
    (sSeq (sAsg (m2 dMod (mF dInt (mCons (mSt 0 2) mNil)) (mLook 1)) (pName 2))
    (sSeq (sSt 0 2 (m2 dDiv (mSt 0 2) (mLook 1)))
    (sSeq (sSt 0 3 (mIte (mB (m2 dGt (mSt 0 2) (mC (.int 0)))) (m2 dSub (mSt 0 3) (mC (.int 1))) (mC (.int 0))))
    (sRet (mLook 2))))) sNx)
    (sSeq (sSt 0 5 (m2 dAdd (mSt 0 5) (mC (.int 1))))
    (sSeq (sSt 0 4 (m2 dMod (mF dInt (mCons (m2 dAdd (m2 dAdd (m2 dMul (mSt 0 4) (mC (.int 48271))) (m2 dMul (m2 dMul (mSt 0 5) (mSt 0 5)) (mC (.int 69621)))) (mC (.int 11))) mNil)) (mC (.int 2147483647))))
    (sRet (m2 dMod (mF dInt (mCons (m2 dDiv (mSt 0 4) (mC (.int 13))) mNil)) (mLook 1)))))))
def G_L_draw : List PyData → Drw → Option (PyData × Drw) := runS 1 m_L_draw
def m_L_same : MS := (sRet (mAndV (m2 dEq (mLook 0) (mLook 1)) (m2 dEq (mF dRepr (mCons (mLook 0) mNil)) (mF dRepr (mCons (mLook 1) mNil)))))
def G_L_same : List PyData → Option PyData := runM 0 m_L_same
def m_mean_seen : MS := (sSeq (sDrop (mF (fun ds => if ds.length + [PyData.str "dies"].length = 2 then G_check_dies (ds ++ [PyData.str "dies"]) else none) (mCons (mVar 0) mNil)))
    (sSeq (sDrop (mF (cal 1 G_check_coins) (mCons (mVar 1) mNil)))
    (sSeq (sAsg (mF (cal 2 G_ways_table) (mCons (mVar 0) (mCons (mVar 1) mNil))) (pTup (pCons (pName 2) (pCons (pName 3) pNil))))
    (sRet (mF (cal 2 G_quotient) (mCons (mF dSum (mCons (mLc (mEnum (mLook 2)) (pTup (pCons (pName 4) (pCons (pName 5) pNil))) mYes (m2 dMul (mLook 4) (mLook 5)) [4, 5]) mNil)) (mCons (mVar 3) mNil)))))))
def G_mean_seen : List PyData → Option PyData := runM 4 m_mean_seen
def m_L_divisor : MS := (sSeq (sWhile 100000 (mTru (mLook 1))
    (sPar 0 1 (mCons (mVar 1) (mCons (m2 dSub (mLook 0) (m2 dMul (m2 dDiv (mLook 0) (mLook 1)) (mLook 1))) mNil))))
    (sRet (mF dAbs (mCons (mLook 0) mNil))))
def G_L_divisor : List PyData → Option PyData := runM 0 m_L_divisor
def m_L_quotient : MS := (sSeq (sAsg (mF (cal 2 G_L_divisor) (mCons (mVar 0) (mCons (mVar 1) mNil))) (pName 2))
    (sRet (mTup (mCons (m2 dDiv (mLook 0) (mLook 2)) (mCons (m2 dDiv (mLook 1) (mLook 2)) mNil)))))
def G_L_quotient : List PyData → Option PyData := runM 1 m_L_quotient
def m_check_seen : MS := (sIf (mOr (mNot (mTru (mF (cal 1 G_is_integer) (mCons (mVar 0) mNil)))) (mNot (mB (mCh2 dLe dLe (mC (.int 0)) (mLook 0) (mC (.int 40))))))
    sNo sNx)
def G_check_seen : List PyData → Option PyData := runM 0 m_check_seen
def m_check_more : MS := (sSeq (sIf (mB (m2 dGt (mLook 1) (mLook 0)))
    sNo sNx)
    (sIf (mOr (mNot (mTru (mF (cal 1 G_is_integer) (mCons (mVar 2) mNil)))) (mNot (mB (mCh2 dLe dLe (mC (.int 0)) (mLook 2) (mC (.int 60))))))
    sNo sNx))
def G_check_more : List PyData → Option PyData := runM 0 m_check_more
def m_chance_new : MS := (sSeq (sDrop (mF (fun ds => if ds.length + [PyData.str "dies"].length = 2 then G_check_dies (ds ++ [PyData.str "dies"]) else none) (mCons (mVar 0) mNil)))
    (sSeq (sDrop (mF (cal 1 G_check_seen) (mCons (mVar 1) mNil)))
    (sSeq (sDrop (mF (cal 3 G_check_more) (mCons (mVar 0) (mCons (mVar 1) (mCons (mVar 2) mNil)))))
    (sSeq (sAsg (mTup (mCons (mC (.int 1)) (mCons (mC (.int 1)) mNil))) (pTup (pCons (pName 3) (pCons (pName 4) pNil))))
    (sSeq (sFor (mRng1 (mCons (mVar 2) mNil)) (pName 5)
    (sSeq (sAug dMulI 3 (mLook 1))
    (sAug dMulI 4 (mLook 0))))
    (sRet (mF (cal 2 G_quotient) (mCons (m2 dSub (mLook 4) (mLook 3)) (mCons (mVar 4) mNil)))))))))
def G_chance_new : List PyData → Option PyData := runM 3 m_chance_new
def m_L_added : MS := (sSeq (sAsg (mTup (mCons (mC (.int 0)) (mCons (mC (.int 1)) mNil))) (pTup (pCons (pName 1) (pCons (pName 2) pNil))))
    (sSeq (sFor (mItems (mVar 0)) (pName 3)
    (sAsg (mF (cal 2 G_L_quotient) (mCons (m2 dAdd (m2 dMul (mLook 1) (m2 dIx (mLook 3) (mC (.int 1)))) (m2 dMul (m2 dIx (mLook 3) (mC (.int 0))) (mLook 2))) (mCons (m2 dMul (mLook 2) (m2 dIx (mLook 3) (mC (.int 1)))) mNil))) (pTup (pCons (pName 1) (pCons (pName 2) pNil)))))
    (sRet (mTup (mCons (mVar 1) (mCons (mVar 2) mNil))))))
def G_L_added : List PyData → Option PyData := runM 3 m_L_added
def m_L_chances_hold : MS := (sSeq (sPar 1 2 (mCons (m2 dAdd (mC (.int 1)) (mFS 0 1 G_L_draw (mCons (mC (.int 9)) mNil))) (mCons (mFS 0 1 G_L_draw (mCons (mC (.int 11)) mNil)) mNil)))
    (sSeq (sAsg (mF (cal 2 G_chances_seen) (mCons (mVar 1) (mCons (mVar 2) mNil))) (pName 3))
    (sSeq (sIf (mOr (mB (m2 dNe (mF dLenX (mCons (mLook 3) mNil)) (m2 dAdd (mLook 1) (mC (.int 1))))) (mOr (mB (m2 dNe (mF (cal 1 G_L_added) (mCons (mF dList (mCons (mLook 3) mNil)) mNil)) (mTup (mCons (mC (.int 1)) (mCons (mC (.int 1)) mNil))))) (mB (m2 dNe (mF (cal 1 G_L_added) (mCons (mLc (mRng1 (mCons (m2 dAdd (mLook 1) (mC (.int 1))) mNil)) (pName 5) mYes (mF (cal 2 G_L_quotient) (mCons (m2 dMul (mLook 5) (m2 dIx (m2 dIx (mLook 3) (mLook 5)) (mC (.int 0)))) (mCons (m2 dIx (m2 dIx (mLook 3) (mLook 5)) (mC (.int 1))) mNil))) [5]) mNil)) (mF (cal 2 G_mean_seen) (mCons (mVar 1) (mCons (mVar 2) mNil)))))))
    (sRet (mC (.bool false))) sNx)
    (sSeq (sOwn 4 (mLst mNil))
    (sSeq (sFor (mRng1 (mCons (m2 dAdd (mLook 1) (mC (.int 1))) mNil)) (pName 5)
    (sSeq (sPar 6 7 (mCons (mF (cal 2 G_L_quotient) (mCons (m2 dMul (m2 dIx (m2 dIx (mLook 3) (mLook 5)) (mC (.int 0))) (mLook 5)) (mCons (m2 dMul (m2 dIx (m2 dIx (mLook 3) (mLook 5)) (mC (.int 1))) (mLook 1)) mNil))) (mCons (mIte (mTru (mLook 5)) (mF (cal 2 G_L_quotient) (mCons (m2 dMul (m2 dIx (m2 dIx (mLook 3) (m2 dSub (mLook 5) (mC (.int 1)))) (mC (.int 0))) (m2 dAdd (m2 dSub (mLook 1) (mLook 5)) (mC (.int 1)))) (mCons (m2 dMul (m2 dIx (m2 dIx (mLook 3) (m2 dSub (mLook 5) (mC (.int 1)))) (mC (.int 1))) (mLook 1)) mNil))) (mTup (mCons (mC (.int 0)) (mCons (mC (.int 1)) mNil)))) mNil)))
    (sApp 4 (mF (cal 1 G_L_added) (mCons (mLst (mCons (mVar 6) (mCons (mVar 7) mNil))) mNil)))))
    (sSeq (sIf (mNot (mTru (mF (cal 2 G_L_same) (mCons (mF (cal 2 G_chances_seen) (mCons (mVar 1) (mCons (m2 dAdd (mLook 2) (mC (.int 1))) mNil))) (mCons (mF dTuple (mCons (mLook 4) mNil)) mNil)))))
    (sRet (mC (.bool false))) sNx)
    (sSeq (sAsg (mTup (mCons (mC (.int 1)) (mCons (mC (.int 1)) mNil))) (pTup (pCons (pName 8) (pCons (pName 9) pNil))))
    (sSeq (sFor (mRng1 (mCons (mVar 2) mNil)) (pName 10)
    (sPar 8 9 (mCons (m2 dMul (mLook 8) (m2 dSub (mLook 1) (mC (.int 1)))) (mCons (m2 dMul (mLook 9) (mLook 1)) mNil))))
    (sSeq (sIf (mB (m2 dNe (mF (cal 2 G_mean_seen) (mCons (mVar 1) (mCons (mVar 2) mNil))) (mF (cal 2 G_L_quotient) (mCons (m2 dMul (mLook 1) (m2 dSub (mLook 9) (mLook 8))) (mCons (mVar 9) mNil)))))
    (sRet (mC (.bool false))) sNx)
    (sSeq (sPar 11 12 (mCons (mFS 0 1 G_L_draw (mCons (m2 dAdd (mLook 1) (mC (.int 1))) mNil)) (mCons (mFS 0 1 G_L_draw (mCons (mC (.int 8)) mNil)) mNil)))
    (sSeq (sAsg (mTup (mCons (mC (.int 1)) (mCons (mC (.int 1)) mNil))) (pTup (pCons (pName 8) (pCons (pName 9) pNil))))
    (sSeq (sFor (mRng1 (mCons (mVar 12) mNil)) (pName 10)
    (sPar 8 9 (mCons (m2 dMul (mLook 8) (mLook 11)) (mCons (m2 dMul (mLook 9) (mLook 1)) mNil))))
    (sRet (m2 dEq (mF (cal 3 G_chance_new) (mCons (mVar 1) (mCons (mVar 11) (mCons (mVar 12) mNil)))) (mF (cal 2 G_L_quotient) (mCons (m2 dSub (mLook 9) (mLook 8)) (mCons (mVar 9) mNil)))))))))))))))))
def G_L_chances_hold : List PyData → Drw → Option (PyData × Drw) := runS 12 m_L_chances_hold
def m_likeliest_dies : MS := (sSeq (sDrop (mF (cal 1 G_check_coins) (mCons (mVar 0) mNil)))
    (sSeq (sDrop (mF (cal 1 G_check_seen) (mCons (mVar 1) mNil)))
    (sSeq (sDrop (mF (cal 2 G_check_dies) (mCons (mVar 2) (mCons (mC (.str "most")) mNil))))
    (sSeq (sAsg (mC .none) (pName 3))
    (sSeq (sFor (mRng2 (mCons (mF dMax2 (mCons (mC (.int 1)) (mCons (mLook 1) mNil))) (mCons (m2 dAdd (mLook 2) (mC (.int 1))) mNil))) (pName 4)
    (sSeq (sAsg (mF (cal 2 G_ways_table) (mCons (mVar 4) (mCons (mVar 0) mNil))) (pTup (pCons (pName 5) (pCons (pName 6) pNil))))
    (sIf (mAnd (mTru (m2 dIx (mLook 5) (mLook 1))) (mOr (mB (m2 dIsN (mLook 3) (mC .none))) (mB (m2 dGt (m2 dMul (m2 dIx (mLook 5) (mLook 1)) (m2 dIx (mLook 3) (mC (.int 1)))) (m2 dMul (m2 dIx (mLook 3) (mC (.int 0))) (mLook 6))))))
    (sAsg (mTup (mCons (m2 dIx (mLook 5) (mLook 1)) (mCons (mVar 6) (mCons (mVar 4) mNil)))) (pName 3)) sNx)))
    (sRet (mIte (mB (m2 dIsN (mLook 3) (mC .none))) (mC .none) (m2 dIx (mLook 3) (mC (.int 2))))))))))
def G_likeliest_dies : List PyData → Option PyData := runM 4 m_likeliest_dies
def m_check_part : MS := (sSeq (sIf (mOr (mNot (mTru (mIsi "tuple" (mLook 0)))) (mOr (mB (m2 dNe (mF dLenX (mCons (mLook 0) mNil)) (mC (.int 2)))) (mNot (mTru (mF dAll (mCons (mLc (mItems (mLook 0)) (pName 1) mYes (mF (cal 1 G_is_integer) (mCons (mVar 1) mNil)) [1]) mNil))))))
    sNo sNx)
    (sIf (mOr (mNot (mB (mCh3 dLe dLe dLe (mC (.int 1)) (m2 dIx (mLook 0) (mC (.int 0))) (m2 dIx (mLook 0) (mC (.int 1))) (mC (.int 1000))))) (mB (m2 dNe (mF (cal 2 G_quotient) (mCons (m2 dIx (mLook 0) (mC (.int 0))) (mCons (m2 dIx (mLook 0) (mC (.int 1))) mNil))) (mLook 0))))
    sNo sNx))
def G_check_part : List PyData → Option PyData := runM 1 m_check_part
def m_dies_bounds : MS := (sSeq (sDrop (mF (cal 1 G_check_coins) (mCons (mVar 0) mNil)))
    (sSeq (sDrop (mF (cal 1 G_check_seen) (mCons (mVar 1) mNil)))
    (sSeq (sDrop (mF (cal 1 G_check_part) (mCons (mVar 2) mNil)))
    (sSeq (sDrop (mF (cal 2 G_check_dies) (mCons (mVar 3) (mCons (mC (.str "most")) mNil))))
    (sSeq (sOwn 4 (mLst mNil))
    (sSeq (sFor (mRng2 (mCons (mF dMax2 (mCons (mC (.int 1)) (mCons (mLook 1) mNil))) (mCons (m2 dAdd (mLook 3) (mC (.int 1))) mNil))) (pName 5)
    (sSeq (sAsg (mF (cal 2 G_ways_table) (mCons (mVar 5) (mCons (mVar 0) mNil))) (pTup (pCons (pName 6) (pCons (pName 7) pNil))))
    (sSeq (sPar 8 9 (mCons (mF dSum (mCons (mCut (mLook 6) mNoP (mPt (m2 dAdd (mLook 1) (mC (.int 1))))) mNil)) (mCons (mF dSum (mCons (mCut (mLook 6) (mPt (mVar 1)) mNoP) mNil)) mNil)))
    (sIf (mB (m2 dGe (m2 dMul (mF dMin2 (mCons (mLook 8) (mCons (mLook 9) mNil))) (m2 dIx (mLook 2) (mC (.int 1)))) (m2 dMul (m2 dIx (mLook 2) (mC (.int 0))) (mLook 7))))
    (sApp 4 (mVar 5)) sNx))))
    (sRet (mIte (mTru (mLook 4)) (mTup (mCons (m2 dIx (mLook 4) (mC (.int 0))) (mCons (m2 dIx (mLook 4) (mNeg (mC (.int 1)))) mNil))) (mC .none)))))))))
def G_dies_bounds : List PyData → Option PyData := runM 6 m_dies_bounds
def m_least_for : MS := (sSeq (sDrop (mF (fun ds => if ds.length + [PyData.str "dies"].length = 2 then G_check_dies (ds ++ [PyData.str "dies"]) else none) (mCons (mVar 0) mNil)))
    (sSeq (sIf (mOr (mNot (mTru (mF (cal 1 G_is_integer) (mCons (mVar 1) mNil)))) (mNot (mB (mCh2 dLe dLe (mC (.int 0)) (mLook 1) (mC (.int 40))))))
    sNo sNx)
    (sSeq (sFor (mRng1 (mCons (m2 dAdd (mC (.int 60)) (mC (.int 1))) mNil)) (pName 2)
    (sSeq (sAsg (mF (cal 2 G_ways_table) (mCons (mVar 0) (mCons (mVar 2) mNil))) (pTup (pCons (pName 3) (pCons (pName 4) pNil))))
    (sIf (mB (m2 dGe (mF dSum (mCons (mLc (mEnum (mLook 3)) (pTup (pCons (pName 5) (pCons (pName 6) pNil))) mYes (m2 dMul (mLook 5) (mLook 6)) [5, 6]) mNil)) (m2 dMul (mLook 1) (mLook 4))))
    (sRet (mLook 2)) sNx)))
    (sRet (mC .none)))))
def G_least_for : List PyData → Option PyData := runM 5 m_least_for
def m_L_is_less : MS := (sRet (m2 dLt (m2 dMul (m2 dIx (mLook 0) (mC (.int 0))) (m2 dIx (mLook 1) (mC (.int 1)))) (m2 dMul (m2 dIx (mLook 1) (mC (.int 0))) (m2 dIx (mLook 0) (mC (.int 1))))))
def G_L_is_less : List PyData → Option PyData := runM 0 m_L_is_less
def m_L_numbers_hold : MS := (sSeq (sAsg (mTup (mCons (mFS 0 1 G_L_draw (mCons (mC (.int 9)) mNil)) (mCons (mFS 0 1 G_L_draw (mCons (mC (.int 7)) mNil)) (mCons (m2 dAdd (mC (.int 1)) (mFS 0 1 G_L_draw (mCons (mC (.int 11)) mNil))) mNil)))) (pTup (pCons (pName 1) (pCons (pName 2) (pCons (pName 3) pNil)))))
    (sSeq (sAsg (mLc (mRng2 (mCons (mC (.int 1)) (mCons (m2 dAdd (mLook 3) (mC (.int 1))) mNil))) (pName 9) mYes (mF (cal 2 G_chances_seen) (mCons (mVar 9) (mCons (mVar 1) mNil))) [9]) (pName 4))
    (sSeq (sAsg (mLc (mItems (mLook 4)) (pName 13) mYes (mIte (mB (m2 dLt (mLook 2) (mF dLenX (mCons (mLook 13) mNil)))) (m2 dIx (mLook 13) (mLook 2)) (mTup (mCons (mC (.int 0)) (mCons (mC (.int 1)) mNil)))) [13]) (pName 5))
    (sSeq (sAsg (mLc (mRng1 (mCons (mVar 3) mNil)) (pName 14) (mAnd (mB (m2 dGt (m2 dIx (m2 dIx (mLook 5) (mLook 14)) (mC (.int 0))) (mC (.int 0)))) (mB (m2 dEq (mLc (mItems (mLook 5)) (pName 13) (mTru (mF (cal 2 G_L_is_less) (mCons (m2 dIx (mLook 5) (mLook 14)) (mCons (mVar 13) mNil)))) (mVar 13) [13]) (mLst mNil)))) (mVar 14) [14]) (pName 6))
    (sSeq (sIf (mB (m2 dNe (mF (cal 3 G_likeliest_dies) (mCons (mVar 1) (mCons (mVar 2) (mCons (mVar 3) mNil)))) (mIte (mTru (mLook 6)) (m2 dAdd (m2 dIx (mLook 6) (mC (.int 0))) (mC (.int 1))) (mC .none))))
    (sRet (mC (.bool false))) sNx)
    (sSeq (sAsg (mF (cal 2 G_L_quotient) (mCons (m2 dAdd (mC (.int 1)) (mFS 0 1 G_L_draw (mCons (mC (.int 9)) mNil))) (mCons (mC (.int 20)) mNil))) (pName 7))
    (sSeq (sOwn 8 (mLst mNil))
    (sSeq (sFor (mRng2 (mCons (mF (dBest PySem.W.maxD) (mCons (mLst (mCons (mC (.int 1)) (mCons (mVar 2) mNil))) mNil)) (mCons (m2 dAdd (mLook 3) (mC (.int 1))) mNil))) (pName 9)
    (sSeq (sAsg (m2 dIx (mLook 4) (m2 dSub (mLook 9) (mC (.int 1)))) (pName 10))
    (sExt 8 (mIte (mAnd (mNot (mTru (mF (cal 2 G_L_is_less) (mCons (mF (cal 1 G_L_added) (mCons (mF dList (mCons (mCut (mLook 10) mNoP (mPt (m2 dAdd (mLook 2) (mC (.int 1))))) mNil)) mNil)) (mCons (mVar 7) mNil))))) (mNot (mTru (mF (cal 2 G_L_is_less) (mCons (mF (cal 1 G_L_added) (mCons (mF dList (mCons (mCut (mLook 10) (mPt (mVar 2)) mNoP) mNil)) mNil)) (mCons (mVar 7) mNil)))))) (mLst (mCons (mVar 9) mNil)) (mLst mNil)))))
    (sSeq (sIf (mB (m2 dNe (mF (cal 4 G_dies_bounds) (mCons (mVar 1) (mCons (mVar 2) (mCons (mVar 7) (mCons (mVar 3) mNil))))) (mIte (mTru (mLook 8)) (mTup (mCons (m2 dIx (mLook 8) (mC (.int 0))) (mCons (m2 dIx (mLook 8) (mNeg (mC (.int 1)))) mNil))) (mC .none))))
    (sRet (mC (.bool false))) sNx)
    (sSeq (sAsg (mTup (mCons (m2 dAdd (mC (.int 1)) (mFS 0 1 G_L_draw (mCons (mC (.int 8)) mNil))) (mCons (mFS 0 1 G_L_draw (mCons (mC (.int 9)) mNil)) mNil))) (pTup (pCons (pName 9) (pCons (pName 11) pNil))))
    (sSeq (sAsg (mLc (mRng1 (mCons (mC (.int 61)) mNil)) (pName 13) (mNot (mTru (mF (cal 2 G_L_is_less) (mCons (mF (cal 2 G_mean_seen) (mCons (mVar 9) (mCons (mVar 13) mNil))) (mCons (mTup (mCons (mVar 11) (mCons (mC (.int 1)) mNil))) mNil))))) (mVar 13) [13]) (pName 12))
    (sRet (m2 dEq (mF (cal 2 G_least_for) (mCons (mVar 9) (mCons (mVar 11) mNil))) (mIte (mTru (mLook 12)) (m2 dIx (mLook 12) (mC (.int 0))) (mC .none)))))))))))))))
def G_L_numbers_hold : List PyData → Drw → Option (PyData × Drw) := runS 14 m_L_numbers_hold
def m_check_counts : MS := (sSeq (sIf (mOr (mNot (mTru (mIsi "tuple" (mLook 0)))) (mNot (mB (mCh2 dLe dLe (mC (.int 1)) (mF dLenX (mCons (mLook 0) mNil)) (mC (.int 40))))))
    sNo sNx)
    (sIf (mNot (mTru (mF dAll (mCons (mLc (mItems (mLook 0)) (pName 1) mYes (mAndV (mF (cal 1 G_is_integer) (mCons (mVar 1) mNil)) (mCh2 dLe dLe (mC (.int 1)) (mLook 1) (mC (.int 60)))) [1]) mNil))))
    sNo sNx))
def G_check_counts : List PyData → Option PyData := runM 1 m_check_counts
def m_chance_alike : MS := (sSeq (sDrop (mF (cal 1 G_check_counts) (mCons (mVar 0) mNil)))
    (sSeq (sAsg (mF dSum (mCons (mLook 0) mNil)) (pName 1))
    (sSeq (sIf (mB (m2 dLt (mLook 1) (mC (.int 2))))
    (sRet (mC .none)) sNx)
    (sRet (mF (cal 2 G_quotient) (mCons (mF dSum (mCons (mLc (mItems (mLook 0)) (pName 2) mYes (m2 dMul (mLook 2) (m2 dSub (mLook 2) (mC (.int 1)))) [2]) mNil)) (mCons (m2 dMul (mLook 1) (m2 dSub (mLook 1) (mC (.int 1)))) mNil)))))))
def G_chance_alike : List PyData → Option PyData := runM 2 m_chance_alike
def m_judge_counts : MS := (sSeq (sDrop (mF (cal 1 G_check_coins) (mCons (mVar 0) mNil)))
    (sSeq (sDrop (mF (cal 1 G_check_counts) (mCons (mVar 1) mNil)))
    (sSeq (sAsg (m2 dSub (mLook 0) (mF dSum (mCons (mLook 1) mNil))) (pName 2))
    (sRet (mIte (mB (m2 dEq (mLook 2) (mC (.int 0)))) (mTup (mCons (mC (.str "right")) mNil)) (mTup (mCons (mC (.str "gap")) (mCons (mVar 2) mNil))))))))
def G_judge_counts : List PyData → Option PyData := runM 1 m_judge_counts
def m_coverage : MS := (sSeq (sDrop (mF (cal 1 G_check_counts) (mCons (mVar 0) mNil)))
    (sSeq (sAsg (mF dLenX (mCons (mLc (mItems (mLook 0)) (pName 2) (mB (m2 dEq (mLook 2) (mC (.int 1)))) (mVar 2) [2]) mNil)) (pName 1))
    (sRet (mF (cal 2 G_quotient) (mCons (m2 dSub (mF dSum (mCons (mLook 0) mNil)) (mLook 1)) (mCons (mF dSum (mCons (mLook 0) mNil)) mNil))))))
def G_coverage : List PyData → Option PyData := runM 2 m_coverage
def m_often_seen : MS := (sSeq (sDrop (mF (cal 1 G_check_counts) (mCons (mVar 0) mNil)))
    (sRet (mF dTuple (mCons (mLc (mItems (mF dSortDI (mCons (mDc (mItems (mLook 0)) (pName 2) mYes (mVar 2) (mC (.bool true)) [2]) mNil))) (pName 1) mYes (mTup (mCons (mVar 1) (mCons (mCount (mLook 0) (mLook 1)) mNil))) [1]) mNil))))
def G_often_seen : List PyData → Option PyData := runM 2 m_often_seen
def m_L_pick_size : MS := (sRet (m2 dIx (mLst (mCons (mC (.int 1)) (mCons (mC (.int 2)) (mCons (mC (.int 4)) (mCons (mC (.int 7)) mNil))))) (mFS 0 1 G_L_draw (mCons (mC (.int 4)) mNil))))
def G_L_pick_size : List PyData → Drw → Option (PyData × Drw) := runS 0 m_L_pick_size
def m_L_counts_hold : MS := (sSeq (sAsg (mF dTuple (mCons (mLc (mRng1 (mCons (m2 dAdd (mC (.int 1)) (mFS 0 1 G_L_draw (mCons (mC (.int 8)) mNil))) mNil)) (pName 10) mYes (m2 dAdd (mC (.int 1)) (mFS 0 1 G_L_draw (mCons (mFS 0 0 G_L_pick_size mNil) mNil))) [10]) mNil)) (pName 1))
    (sSeq (sAsg (mF dSum (mCons (mLook 1) mNil)) (pName 2))
    (sSeq (sPar 3 4 (mCons (mF dLenX (mCons (mLc (mItems (mLook 1)) (pName 10) (mB (m2 dEq (mLook 10) (mC (.int 1)))) (mVar 10) [10]) mNil)) (mCons (mSortedSet (mLook 1)) mNil)))
    (sSeq (sIf (mOr (mB (m2 dNe (mF (cal 1 G_coverage) (mCons (mVar 1) mNil)) (mF (cal 2 G_L_quotient) (mCons (m2 dSub (mLook 2) (mLook 3)) (mCons (mVar 2) mNil))))) (mNot (mTru (mF (cal 2 G_L_same) (mCons (mF (cal 1 G_often_seen) (mCons (mVar 1) mNil)) (mCons (mF dTuple (mCons (mLc (mItems (mLook 4)) (pName 10) mYes (mTup (mCons (mVar 10) (mCons (mCount (mLook 1) (mLook 10)) mNil))) [10]) mNil)) mNil))))))
    (sRet (mC (.bool false))) sNx)
    (sSeq (sAsg (mF (cal 1 G_chance_alike) (mCons (mVar 1) mNil)) (pName 5))
    (sSeq (sAsg (m2 dDiv (m2 dMul (mLook 2) (m2 dSub (mLook 2) (mC (.int 1)))) (mC (.int 2))) (pName 6))
    (sSeq (sIf (mB (m2 dLt (mLook 2) (mC (.int 2))))
    (sRet (m2 dIsN (mLook 5) (mC .none))) sNx)
    (sSeq (sAsg (mF dSum (mCons (mLc (mRng1 (mCons (mF dLenX (mCons (mLook 1) mNil)) mNil)) (pName 11) mYes (m2 dMul (m2 dIx (mLook 1) (mLook 11)) (mF dSum (mCons (mCut (mLook 1) (mPt (m2 dAdd (mLook 11) (mC (.int 1)))) mNoP) mNil))) [11]) mNil)) (pName 7))
    (sSeq (sIf (mOr (mB (m2 dNe (mLook 5) (mF (cal 2 G_L_quotient) (mCons (m2 dSub (mLook 6) (mLook 7)) (mCons (mVar 6) mNil))))) (mOr (mB (m2 dNe (mF (cal 1 G_chance_alike) (mCons (mRev (mLook 1)) mNil)) (mLook 5))) (mB (m2 dNe (mF (cal 1 G_coverage) (mCons (mRev (mLook 1)) mNil)) (mF (cal 1 G_coverage) (mCons (mVar 1) mNil))))))
    (sRet (mC (.bool false))) sNx)
    (sSeq (sAsg (mFS 0 1 G_L_draw (mCons (mC (.int 60)) mNil)) (pName 8))
    (sSeq (sIf (mB (m2 dNe (mF (cal 2 G_judge_counts) (mCons (mVar 8) (mCons (mVar 1) mNil))) (mIte (mB (m2 dEq (mLook 8) (mLook 2))) (mTup (mCons (mC (.str "right")) mNil)) (mTup (mCons (mC (.str "gap")) (mCons (m2 dSub (mLook 8) (mLook 2)) mNil))))))
    (sRet (mC (.bool false))) sNx)
    (sSeq (sAsg (m2 dAdd (mTup (mCons (m2 dAdd (m2 dIx (mLook 1) (mC (.int 0))) (m2 dIx (mLook 1) (mNeg (mC (.int 1))))) mNil)) (mCut (mLook 1) (mPt (mC (.int 1))) (mPt (mNeg (mC (.int 1)))))) (pName 9))
    (sRet (mOrV (m2 dLt (mF dLenX (mCons (mLook 1) mNil)) (mC (.int 2))) (mV (mNot (mTru (mF (cal 2 G_L_is_less) (mCons (mF (cal 1 G_chance_alike) (mCons (mVar 9) mNil)) (mCons (mVar 5) mNil))))))))))))))))))))
def G_L_counts_hold : List PyData → Drw → Option (PyData × Drw) := runS 11 m_L_counts_hold
def m_law : MS := (sSeq (sFor (mRng1 (mCons (mC (.int 2)) mNil)) (pName 2)
    (sIf (mOr (mNot (mTru (mFS 1 0 G_L_chances_hold mNil))) (mOr (mNot (mTru (mFS 1 0 G_L_numbers_hold mNil))) (mNot (mTru (mFS 1 0 G_L_counts_hold mNil)))))
    (sRet (mC (.bool false))) sNx))
    (sRet (mC (.bool true))))
end K70

set_option Elab.async false
set_option linter.all false
set_option maxRecDepth 100000
set_option maxHeartbeats 4000000
set_option exponentiation.threshold 10000
namespace K70
open PySem PySem.Spec PyProof.Rows L2 Mini
theorem ev_is_integer (i : Int) : G_is_integer [.int i] = some (.bool true) := rfl
theorem ev_check_dies {i : Int} (h1 : 1 ≤ i) (h2 : i ≤ 40) (d : PyData) : G_check_dies [.int i, d] = some .none := by
  simp only [G_check_dies, m_check_dies, runM, runS, env0, flD, cal, sSeq, sIf, sRet, sRetN, sDrop, sAsg, sOwn, sFrz, frz, sPar, sPar3, sNx, sNo, sBk, sCt, sApp, sExt, sSetIx, sAug, sFor, sWhile, m1, m2, mC, mVar, mLook, mAnd, mOr, mNot, mIte, mB, mV, mTru, dTru, mAndV, mOrV, mNotV, mNil, mCons, mTup, mLst, mF, mFS, mItems, mRng, mRng1, mRng2, mRng3, dRng1, dRng2, dRng3, mEnum, mZip, mCut, mNoP, mPt, mRev, mNeg, dNeg, dRev, dCut, mLc, mYes, pName, pTup, pNil, pCons, wipeS, dAdd, dSub, dMul, dDiv, dMod, dMulI, dAddI, dCmp, dIsN, dNotN, isNone, dLenX, dLen, seqOf, dAbs, dMax2, dMin2, dInt, dTuple, dList, dCatL, dRepL, mSt, mStLen, mStCell, sSt, sSt3, drwGet, drwSet, mCh2, mCh3, mCount, dCount, Option.bind_some, Option.map_some, Option.bind_none, Option.map_none, List.getElem?_cons_zero, List.getElem?_cons_succ, List.set_cons_zero, List.set_cons_succ, List.map_cons, List.map_nil, List.cons_append, List.nil_append, List.replicate_succ, List.replicate_zero, List.length_cons, List.length_nil, if_true, if_false, reduceIte, Bool.false_eq_true, Bool.not_true, Bool.not_false, decide_true, decide_false, ev_is_integer, h1, h2]
theorem ev_check_coins {i : Int} (h1 : 0 ≤ i) (h2 : i ≤ 60) : G_check_coins [.int i] = some .none := by
  simp only [G_check_coins, m_check_coins, runM, runS, env0, flD, cal, sSeq, sIf, sRet, sRetN, sDrop, sAsg, sOwn, sFrz, frz, sPar, sPar3, sNx, sNo, sBk, sCt, sApp, sExt, sSetIx, sAug, sFor, sWhile, m1, m2, mC, mVar, mLook, mAnd, mOr, mNot, mIte, mB, mV, mTru, dTru, mAndV, mOrV, mNotV, mNil, mCons, mTup, mLst, mF, mFS, mItems, mRng, mRng1, mRng2, mRng3, dRng1, dRng2, dRng3, mEnum, mZip, mCut, mNoP, mPt, mRev, mNeg, dNeg, dRev, dCut, mLc, mYes, pName, pTup, pNil, pCons, wipeS, dAdd, dSub, dMul, dDiv, dMod, dMulI, dAddI, dCmp, dIsN, dNotN, isNone, dLenX, dLen, seqOf, dAbs, dMax2, dMin2, dInt, dTuple, dList, dCatL, dRepL, mSt, mStLen, mStCell, sSt, sSt3, drwGet, drwSet, mCh2, mCh3, mCount, dCount, Option.bind_some, Option.map_some, Option.bind_none, Option.map_none, List.getElem?_cons_zero, List.getElem?_cons_succ, List.set_cons_zero, List.set_cons_succ, List.map_cons, List.map_nil, List.cons_append, List.nil_append, List.replicate_succ, List.replicate_zero, List.length_cons, List.length_nil, if_true, if_false, reduceIte, Bool.false_eq_true, Bool.not_true, Bool.not_false, decide_true, decide_false, ev_is_integer, h1, h2]
theorem ev_check_seen {i : Int} (h1 : 0 ≤ i) (h2 : i ≤ 40) : G_check_seen [.int i] = some .none := by
  simp only [G_check_seen, m_check_seen, runM, runS, env0, flD, cal, sSeq, sIf, sRet, sRetN, sDrop, sAsg, sOwn, sFrz, frz, sPar, sPar3, sNx, sNo, sBk, sCt, sApp, sExt, sSetIx, sAug, sFor, sWhile, m1, m2, mC, mVar, mLook, mAnd, mOr, mNot, mIte, mB, mV, mTru, dTru, mAndV, mOrV, mNotV, mNil, mCons, mTup, mLst, mF, mFS, mItems, mRng, mRng1, mRng2, mRng3, dRng1, dRng2, dRng3, mEnum, mZip, mCut, mNoP, mPt, mRev, mNeg, dNeg, dRev, dCut, mLc, mYes, pName, pTup, pNil, pCons, wipeS, dAdd, dSub, dMul, dDiv, dMod, dMulI, dAddI, dCmp, dIsN, dNotN, isNone, dLenX, dLen, seqOf, dAbs, dMax2, dMin2, dInt, dTuple, dList, dCatL, dRepL, mSt, mStLen, mStCell, sSt, sSt3, drwGet, drwSet, mCh2, mCh3, mCount, dCount, Option.bind_some, Option.map_some, Option.bind_none, Option.map_none, List.getElem?_cons_zero, List.getElem?_cons_succ, List.set_cons_zero, List.set_cons_succ, List.map_cons, List.map_nil, List.cons_append, List.nil_append, List.replicate_succ, List.replicate_zero, List.length_cons, List.length_nil, if_true, if_false, reduceIte, Bool.false_eq_true, Bool.not_true, Bool.not_false, decide_true, decide_false, ev_is_integer, h1, h2]
theorem ev_check_more {d s m : Int} (h : s ≤ d) (h1 : 0 ≤ m) (h2 : m ≤ 60) : G_check_more [.int d, .int s, .int m] = some .none := by
  have h' : ¬ d < s := by omega
  simp only [G_check_more, m_check_more, runM, runS, env0, flD, cal, sSeq, sIf, sRet, sRetN, sDrop, sAsg, sOwn, sFrz, frz, sPar, sPar3, sNx, sNo, sBk, sCt, sApp, sExt, sSetIx, sAug, sFor, sWhile, m1, m2, mC, mVar, mLook, mAnd, mOr, mNot, mIte, mB, mV, mTru, dTru, mAndV, mOrV, mNotV, mNil, mCons, mTup, mLst, mF, mFS, mItems, mRng, mRng1, mRng2, mRng3, dRng1, dRng2, dRng3, mEnum, mZip, mCut, mNoP, mPt, mRev, mNeg, dNeg, dRev, dCut, mLc, mYes, pName, pTup, pNil, pCons, wipeS, dAdd, dSub, dMul, dDiv, dMod, dMulI, dAddI, dCmp, dIsN, dNotN, isNone, dLenX, dLen, seqOf, dAbs, dMax2, dMin2, dInt, dTuple, dList, dCatL, dRepL, mSt, mStLen, mStCell, sSt, sSt3, drwGet, drwSet, mCh2, mCh3, mCount, dCount, Option.bind_some, Option.map_some, Option.bind_none, Option.map_none, List.getElem?_cons_zero, List.getElem?_cons_succ, List.set_cons_zero, List.set_cons_succ, List.map_cons, List.map_nil, List.cons_append, List.nil_append, List.replicate_succ, List.replicate_zero, List.length_cons, List.length_nil, if_true, if_false, reduceIte, Bool.false_eq_true, Bool.not_true, Bool.not_false, decide_true, decide_false, ev_is_integer, h1, h2, h']
/-! ### quotients -/
def fU (u d : Nat) : Nat := u / Nat.gcd u d
def fD (u d : Nat) : Nat := d / Nat.gcd u d
def prD (a b : Nat) : PyData := .tuple [.int a, .int b]
def frac (u d : Nat) : PyData := prD (fU u d) (fD u d)
theorem fr_cross (u d : Nat) : fU u d * d = u * fD u d := by
  obtain ⟨a, ha⟩ := Nat.gcd_dvd_left u d
  obtain ⟨b, hb⟩ := Nat.gcd_dvd_right u d
  unfold fU fD
  by_cases h0 : Nat.gcd u d = 0
  · have hu := Nat.eq_zero_of_gcd_eq_zero_left h0
    have hd := Nat.eq_zero_of_gcd_eq_zero_right h0
    rw [hu, hd]; rfl
  · have hp : 0 < Nat.gcd u d := Nat.pos_of_ne_zero h0
    generalize Nat.gcd u d = g at *
    subst ha hb
    rw [Nat.mul_div_cancel_left a hp, Nat.mul_div_cancel_left b hp, ← Nat.mul_assoc, Nat.mul_comm a g, Nat.mul_assoc]
theorem fD_pos {u d : Nat} (h : 0 < d) : 0 < fD u d := by
  have g := Nat.gcd_pos_of_pos_right u h
  exact Nat.div_pos (Nat.le_of_dvd h (Nat.gcd_dvd_right u d)) g
theorem fD_le (u d : Nat) : fD u d ≤ d := Nat.div_le_self _ _
theorem fU_le (u d : Nat) : fU u d ≤ u := Nat.div_le_self _ _
theorem fr_cop {u d : Nat} (h : 0 < d) : Nat.Coprime (fU u d) (fD u d) := Nat.coprime_div_gcd_div_gcd (Nat.gcd_pos_of_pos_right u h)
theorem cop_eq {a b x y : Nat} (h1 : Nat.Coprime a b) (h2 : Nat.Coprime x y) (hb : 0 < b) (hy : 0 < y) (h : a * y = x * b) : a = x ∧ b = y := by
  have d1 : b ∣ y := by
    have : b ∣ a * y := ⟨x, by rw [h, Nat.mul_comm]⟩
    exact (Nat.Coprime.symm h1).dvd_of_dvd_mul_left this
  have d2 : y ∣ b := by
    have : y ∣ x * b := ⟨a, by rw [← h, Nat.mul_comm]⟩
    exact (Nat.Coprime.symm h2).dvd_of_dvd_mul_left this
  have e : b = y := Nat.dvd_antisymm d1 d2
  subst e
  exact ⟨Nat.eq_of_mul_eq_mul_right hb h, rfl⟩
theorem fr_eq {u1 d1 u2 d2 : Nat} (h1 : 0 < d1) (h2 : 0 < d2) (h : u1 * d2 = u2 * d1) : fU u1 d1 = fU u2 d2 ∧ fD u1 d1 = fD u2 d2 := by
  refine cop_eq (fr_cop h1) (fr_cop h2) (fD_pos h1) (fD_pos h2) ?_
  have c1 := fr_cross u1 d1
  have c2 := fr_cross u2 d2
  have k : fU u1 d1 * fD u2 d2 * (d1 * d2) = fU u2 d2 * fD u1 d1 * (d1 * d2) := by
    calc fU u1 d1 * fD u2 d2 * (d1 * d2) = (fU u1 d1 * d1) * (fD u2 d2 * d2) := by ac_rfl
      _ = (u1 * fD u1 d1) * (fD u2 d2 * d2) := by rw [c1]
      _ = (u1 * d2) * (fD u1 d1 * fD u2 d2) := by ac_rfl
      _ = (u2 * d1) * (fD u1 d1 * fD u2 d2) := by rw [h]
      _ = (u2 * fD u2 d2) * (fD u1 d1 * d1) := by ac_rfl
      _ = (fU u2 d2 * d2) * (fD u1 d1 * d1) := by rw [c2]
      _ = fU u2 d2 * fD u1 d1 * (d1 * d2) := by ac_rfl
  exact Nat.eq_of_mul_eq_mul_right (Nat.mul_pos h1 h2) k
theorem frac_eq {u1 d1 u2 d2 : Nat} (h1 : 0 < d1) (h2 : 0 < d2) (h : u1 * d2 = u2 * d1) : frac u1 d1 = frac u2 d2 := by
  obtain ⟨a, b⟩ := fr_eq h1 h2 h
  unfold frac
  rw [a, b]
theorem frac_self {a b : Nat} (h : Nat.Coprime a b) : frac a b = prD a b := by
  unfold frac fU fD
  rw [show Nat.gcd a b = 1 from h, Nat.div_one, Nat.div_one]
/-- a bound that all of this law's numbers keep -/
def MB : Nat := 2 ^ 4000
theorem big_of {n : Nat} (h : n ≤ 2 * (MB * MB)) : ((n : Nat) : Int) < bigZ := by
  unfold bigZ
  have h1 : 2 * (MB * MB) < 2 ^ 9000 := by unfold MB; decide +kernel
  have e2 : ((2 ^ 9000 : Nat) : Int) = 2 ^ 9000 := Int.natCast_pow 2 9000
  rw [← e2]
  exact Int.ofNat_lt.mpr (Nat.lt_of_le_of_lt h h1)
theorem ev_quotient {u d : Nat} (hu : u ≤ 2 * (MB * MB)) (h1 : 0 < d) (hd : d ≤ 2 * (MB * MB)) : G_quotient [.int u, .int d] = some (frac u d) := by
  have h2 := big_of hd
  have loop := euclid (T := mTru (mLook 3)) (B := sPar 2 3 (mCons (mVar 3) (mCons (m2 dMod (mLook 2) (mLook 3)) mNil))) (mk := fun a b => [.val (.int u), .val (.int d), .val (.int a), .val (.int b)]) (w := w0) (M := bigZ)
    (fun a b => rfl) (fun a b _ _ hb _ => by simp only [runM, runS, env0, flD, cal, sSeq, sIf, sRet, sRetN, sDrop, sAsg, sOwn, sFrz, frz, sPar, sPar3, sNx, sNo, sBk, sCt, sApp, sExt, sSetIx, sAug, sFor, sWhile, m1, m2, mC, mVar, mLook, mAnd, mOr, mNot, mIte, mB, mV, mTru, dTru, mAndV, mOrV, mNotV, mNil, mCons, mTup, mLst, mF, mFS, mItems, mRng, mRng1, mRng2, mRng3, dRng1, dRng2, dRng3, mEnum, mZip, mCut, mNoP, mPt, mRev, mNeg, dNeg, dRev, dCut, mLc, mYes, pName, pTup, pNil, pCons, wipeS, dAdd, dSub, dMul, dDiv, dMod, dMulI, dAddI, dCmp, dIsN, dNotN, isNone, dLenX, dLen, seqOf, dAbs, dMax2, dMin2, dInt, dTuple, dList, dCatL, dRepL, mSt, mStLen, mStCell, sSt, sSt3, drwGet, drwSet, mCh2, mCh3, mCount, dCount, Option.bind_some, Option.map_some, Option.bind_none, Option.map_none, List.getElem?_cons_zero, List.getElem?_cons_succ, List.set_cons_zero, List.set_cons_succ, List.map_cons, List.map_nil, List.cons_append, List.nil_append, List.replicate_succ, List.replicate_zero, List.length_cons, List.length_nil, if_true, if_false, reduceIte, Bool.false_eq_true, Bool.not_true, Bool.not_false, decide_true, decide_false, if_pos hb]) 9000 100000 u d (by omega) (big_of hu) (by omega) h2 h2 (by decide)
  have g0 : 0 < ((Nat.gcd u d : Nat) : Int) := by have := Nat.gcd_pos_of_pos_right u h1; omega
  have g1 : ((Nat.gcd u d : Nat) : Int) ≤ d := by have := Nat.le_of_dvd h1 (Nat.gcd_dvd_right u d); omega
  have c1 : 0 < ((Nat.gcd u d : Nat) : Int) ∧ ((Nat.gcd u d : Nat) : Int).natAbs < bigN := ⟨g0, bigZ_nat (by omega) (by omega)⟩
  have e : Int.gcd (u : Int) (d : Int) = Nat.gcd u d := rfl
  rw [e] at loop
  simp only [G_quotient, m_quotient, runM, runS, env0, flD, cal, sSeq, sIf, sRet, sRetN, sDrop, sAsg, sOwn, sFrz, frz, sPar, sPar3, sNx, sNo, sBk, sCt, sApp, sExt, sSetIx, sAug, sFor, sWhile, m1, m2, mC, mVar, mLook, mAnd, mOr, mNot, mIte, mB, mV, mTru, dTru, mAndV, mOrV, mNotV, mNil, mCons, mTup, mLst, mF, mFS, mItems, mRng, mRng1, mRng2, mRng3, dRng1, dRng2, dRng3, mEnum, mZip, mCut, mNoP, mPt, mRev, mNeg, dNeg, dRev, dCut, mLc, mYes, pName, pTup, pNil, pCons, wipeS, dAdd, dSub, dMul, dDiv, dMod, dMulI, dAddI, dCmp, dIsN, dNotN, isNone, dLenX, dLen, seqOf, dAbs, dMax2, dMin2, dInt, dTuple, dList, dCatL, dRepL, mSt, mStLen, mStCell, sSt, sSt3, drwGet, drwSet, mCh2, mCh3, mCount, dCount, Option.bind_some, Option.map_some, Option.bind_none, Option.map_none, List.getElem?_cons_zero, List.getElem?_cons_succ, List.set_cons_zero, List.set_cons_succ, List.map_cons, List.map_nil, List.cons_append, List.nil_append, List.replicate_succ, List.replicate_zero, List.length_cons, List.length_nil, if_true, if_false, reduceIte, Bool.false_eq_true, Bool.not_true, Bool.not_false, decide_true, decide_false, loop, if_pos c1]
  rfl
theorem ev_L_divisor {u d : Nat} (hu : u ≤ 2 * (MB * MB)) (hd : d ≤ 2 * (MB * MB)) : G_L_divisor [.int u, .int d] = some (.int (Nat.gcd u d : Nat)) := by
  have loop := euclid (T := mTru (mLook 1)) (B := sPar 0 1 (mCons (mVar 1) (mCons (m2 dSub (mLook 0) (m2 dMul (m2 dDiv (mLook 0) (mLook 1)) (mLook 1))) mNil))) (mk := fun a b => [.val (.int a), .val (.int b)]) (w := w0) (M := bigZ)
    (fun a b => rfl) (fun a b ha haM hb hbM => by
      have c1 : 0 < b ∧ b.natAbs < bigN := ⟨hb, bigZ_nat (by omega) hbM⟩
      have q0 : 0 ≤ a / b := Int.ediv_nonneg ha (by omega)
      have q1 : a / b ≤ a := Int.ediv_le_self _ ha
      have c2 : mulOk (a / b) b := mulOk_b q0 (by omega) (by omega) hbM
      have e : a - a / b * b = a % b := by rw [Int.mul_comm]; have := Int.mul_ediv_add_emod a b; omega
      simp only [runM, runS, env0, flD, cal, sSeq, sIf, sRet, sRetN, sDrop, sAsg, sOwn, sFrz, frz, sPar, sPar3, sNx, sNo, sBk, sCt, sApp, sExt, sSetIx, sAug, sFor, sWhile, m1, m2, mC, mVar, mLook, mAnd, mOr, mNot, mIte, mB, mV, mTru, dTru, mAndV, mOrV, mNotV, mNil, mCons, mTup, mLst, mF, mFS, mItems, mRng, mRng1, mRng2, mRng3, dRng1, dRng2, dRng3, mEnum, mZip, mCut, mNoP, mPt, mRev, mNeg, dNeg, dRev, dCut, mLc, mYes, pName, pTup, pNil, pCons, wipeS, dAdd, dSub, dMul, dDiv, dMod, dMulI, dAddI, dCmp, dIsN, dNotN, isNone, dLenX, dLen, seqOf, dAbs, dMax2, dMin2, dInt, dTuple, dList, dCatL, dRepL, mSt, mStLen, mStCell, sSt, sSt3, drwGet, drwSet, mCh2, mCh3, mCount, dCount, Option.bind_some, Option.map_some, Option.bind_none, Option.map_none, List.getElem?_cons_zero, List.getElem?_cons_succ, List.set_cons_zero, List.set_cons_succ, List.map_cons, List.map_nil, List.cons_append, List.nil_append, List.replicate_succ, List.replicate_zero, List.length_cons, List.length_nil, if_true, if_false, reduceIte, Bool.false_eq_true, Bool.not_true, Bool.not_false, decide_true, decide_false, if_pos c1, if_pos c2, e]) 9000 100000 u d (by omega) (big_of hu) (by omega) (big_of hd) (big_of hd) (by decide)
  have e : Int.gcd (u : Int) (d : Int) = Nat.gcd u d := rfl
  rw [e] at loop
  have n0 : ¬ (((Nat.gcd u d : Nat) : Int) < 0) := by omega
  simp only [G_L_divisor, m_L_divisor, runM, runS, env0, flD, cal, sSeq, sIf, sRet, sRetN, sDrop, sAsg, sOwn, sFrz, frz, sPar, sPar3, sNx, sNo, sBk, sCt, sApp, sExt, sSetIx, sAug, sFor, sWhile, m1, m2, mC, mVar, mLook, mAnd, mOr, mNot, mIte, mB, mV, mTru, dTru, mAndV, mOrV, mNotV, mNil, mCons, mTup, mLst, mF, mFS, mItems, mRng, mRng1, mRng2, mRng3, dRng1, dRng2, dRng3, mEnum, mZip, mCut, mNoP, mPt, mRev, mNeg, dNeg, dRev, dCut, mLc, mYes, pName, pTup, pNil, pCons, wipeS, dAdd, dSub, dMul, dDiv, dMod, dMulI, dAddI, dCmp, dIsN, dNotN, isNone, dLenX, dLen, seqOf, dAbs, dMax2, dMin2, dInt, dTuple, dList, dCatL, dRepL, mSt, mStLen, mStCell, sSt, sSt3, drwGet, drwSet, mCh2, mCh3, mCount, dCount, Option.bind_some, Option.map_some, Option.bind_none, Option.map_none, List.getElem?_cons_zero, List.getElem?_cons_succ, List.set_cons_zero, List.set_cons_succ, List.map_cons, List.map_nil, List.cons_append, List.nil_append, List.replicate_succ, List.replicate_zero, List.length_cons, List.length_nil, if_true, if_false, reduceIte, Bool.false_eq_true, Bool.not_true, Bool.not_false, decide_true, decide_false, loop, if_neg n0]
theorem ev_L_quotient {u d : Nat} (hu : u ≤ 2 * (MB * MB)) (h1 : 0 < d) (hd : d ≤ 2 * (MB * MB)) : G_L_quotient [.int u, .int d] = some (frac u d) := by
  have h2 := big_of hd
  have g0 : 0 < ((Nat.gcd u d : Nat) : Int) := by have := Nat.gcd_pos_of_pos_right u h1; omega
  have g1 : ((Nat.gcd u d : Nat) : Int) ≤ d := by have := Nat.le_of_dvd h1 (Nat.gcd_dvd_right u d); omega
  have c1 : 0 < ((Nat.gcd u d : Nat) : Int) ∧ ((Nat.gcd u d : Nat) : Int).natAbs < bigN := ⟨g0, bigZ_nat (by omega) (by omega)⟩
  simp only [G_L_quotient, m_L_quotient, runM, runS, env0, flD, cal, sSeq, sIf, sRet, sRetN, sDrop, sAsg, sOwn, sFrz, frz, sPar, sPar3, sNx, sNo, sBk, sCt, sApp, sExt, sSetIx, sAug, sFor, sWhile, m1, m2, mC, mVar, mLook, mAnd, mOr, mNot, mIte, mB, mV, mTru, dTru, mAndV, mOrV, mNotV, mNil, mCons, mTup, mLst, mF, mFS, mItems, mRng, mRng1, mRng2, mRng3, dRng1, dRng2, dRng3, mEnum, mZip, mCut, mNoP, mPt, mRev, mNeg, dNeg, dRev, dCut, mLc, mYes, pName, pTup, pNil, pCons, wipeS, dAdd, dSub, dMul, dDiv, dMod, dMulI, dAddI, dCmp, dIsN, dNotN, isNone, dLenX, dLen, seqOf, dAbs, dMax2, dMin2, dInt, dTuple, dList, dCatL, dRepL, mSt, mStLen, mStCell, sSt, sSt3, drwGet, drwSet, mCh2, mCh3, mCount, dCount, Option.bind_some, Option.map_some, Option.bind_none, Option.map_none, List.getElem?_cons_zero, List.getElem?_cons_succ, List.set_cons_zero, List.set_cons_succ, List.map_cons, List.map_nil, List.cons_append, List.nil_append, List.replicate_succ, List.replicate_zero, List.length_cons, List.length_nil, if_true, if_false, reduceIte, Bool.false_eq_true, Bool.not_true, Bool.not_false, decide_true, decide_false, ev_L_divisor hu hd, if_pos c1]
  rfl
/-! ### sums of quotients with one denominator -/
/-- a quotient's data: a / b = n / W -/
def IsF (W : Nat) (d : PyData) (n : Nat) : Prop := ∃ a b : Nat, d = prD a b ∧ 0 < b ∧ a * W = n * b ∧ a ≤ MB ∧ b ≤ MB
theorem IsF.frac {W n : Nat} (h : 0 < W) (hn : n ≤ MB) (hW : W ≤ MB) : IsF W (K70.frac n W) n := ⟨fU n W, fD n W, rfl, fD_pos h, fr_cross n W, Nat.le_trans (fU_le _ _) hn, Nat.le_trans (fD_le _ _) hW⟩
inductive AllF (W : Nat) : List PyData → List Nat → Prop
  | nil : AllF W [] []
  | cons {d : PyData} {ds : List PyData} {n : Nat} {ns : List Nat} : IsF W d n → AllF W ds ns → AllF W (d :: ds) (n :: ns)
def mAddB : MS := sAsg (mF (cal 2 G_L_quotient) (mCons (m2 dAdd (m2 dMul (mLook 1) (m2 dIx (mLook 3) (mC (.int 1)))) (m2 dMul (m2 dIx (mLook 3) (mC (.int 0))) (mLook 2))) (mCons (m2 dMul (mLook 2) (m2 dIx (mLook 3) (mC (.int 1)))) mNil))) (pTup (pCons (pName 1) (pCons (pName 2) pNil)))
theorem ix_pr0 (a b : PyData) : dIx (.tuple [a, b]) (.int 0) = some a := rfl
theorem ix_pr1 (a b : PyData) : dIx (.tuple [a, b]) (.int 1) = some b := rfl
theorem bigZ_MB {n : Nat} (h : n ≤ MB) : ((n : Nat) : Int) < bigZ := big_of (Nat.le_trans h (Nat.le_trans (Nat.le_mul_of_pos_right MB (by unfold MB; exact Nat.two_pow_pos _)) (Nat.le_mul_of_pos_left _ (by decide))))
theorem mul_MB {a b : Nat} (h1 : a ≤ MB) (h2 : b ≤ MB) : mulOk (a : Int) (b : Int) := mulOk_b (by omega) (bigZ_MB h1) (by omega) (bigZ_MB h2)
theorem ev_add_step {W N n : Nat} {S0 : Sl} {d : PyData} {x : Sl} (hW : 0 < W) (hWM : W ≤ MB) (hN : N ≤ MB) (h : IsF W d n) : mAddB [S0, .val (.int (fU N W)), .val (.int (fD N W)), .val d] w0 = some (.nx, [S0, .val (.int (fU (N + n) W)), .val (.int (fD (N + n) W)), .val d], w0) := by
  obtain ⟨a, b, rfl, hb, hc, ha, hbM⟩ := h
  have u1 := Nat.le_trans (fU_le N W) hN
  have d1 := Nat.le_trans (fD_le N W) hWM
  have p1 := fD_pos (u := N) hW
  have c := fr_cross N W
  have k1 : fU N W * b ≤ MB * MB := Nat.mul_le_mul u1 hbM
  have k2 : a * fD N W ≤ MB * MB := Nat.mul_le_mul ha d1
  have k3 : fD N W * b ≤ MB * MB := Nat.mul_le_mul d1 hbM
  have q := ev_L_quotient (u := fU N W * b + a * fD N W) (d := fD N W * b) (by omega) (Nat.mul_pos p1 hb) (by omega)
  have e := frac_eq (u1 := fU N W * b + a * fD N W) (d1 := fD N W * b) (u2 := N + n) (d2 := W) (Nat.mul_pos p1 hb) hW (by
    calc (fU N W * b + a * fD N W) * W = (fU N W * W) * b + (a * W) * fD N W := by rw [Nat.add_mul]; congr 1 <;> ac_rfl
      _ = (N * fD N W) * b + (n * b) * fD N W := by rw [c, hc]
      _ = (N + n) * (fD N W * b) := by rw [Nat.add_mul]; congr 1 <;> ac_rfl)
  rw [e] at q
  have z1 : ((fU N W : Nat) : Int) * (b : Nat) + (a : Nat) * (fD N W : Nat) = ((fU N W * b + a * fD N W : Nat) : Int) := by simp
  have z2 : ((fD N W : Nat) : Int) * (b : Nat) = ((fD N W * b : Nat) : Int) := by simp
  have m1 := mul_MB u1 hbM
  have m2' := mul_MB ha d1
  have m3 := mul_MB d1 hbM
  simp only [mAddB, prD, runM, runS, env0, flD, cal, sSeq, sIf, sRet, sRetN, sDrop, sAsg, sOwn, sFrz, frz, sPar, sPar3, sNx, sNo, sBk, sCt, sApp, sExt, sSetIx, sAug, sFor, sWhile, m1, m2, mC, mVar, mLook, mAnd, mOr, mNot, mIte, mB, mV, mTru, dTru, mAndV, mOrV, mNotV, mNil, mCons, mTup, mLst, mF, mFS, mItems, mRng, mRng1, mRng2, mRng3, dRng1, dRng2, dRng3, mEnum, mZip, mCut, mNoP, mPt, mRev, mNeg, dNeg, dRev, dCut, mLc, mYes, pName, pTup, pNil, pCons, wipeS, dAdd, dSub, dMul, dDiv, dMod, dMulI, dAddI, dCmp, dIsN, dNotN, isNone, dLenX, dLen, seqOf, dAbs, dMax2, dMin2, dInt, dTuple, dList, dCatL, dRepL, mSt, mStLen, mStCell, sSt, sSt3, drwGet, drwSet, mCh2, mCh3, mCount, dCount, Option.bind_some, Option.map_some, Option.bind_none, Option.map_none, List.getElem?_cons_zero, List.getElem?_cons_succ, List.set_cons_zero, List.set_cons_succ, List.map_cons, List.map_nil, List.cons_append, List.nil_append, List.replicate_succ, List.replicate_zero, List.length_cons, List.length_nil, if_true, if_false, reduceIte, Bool.false_eq_true, Bool.not_true, Bool.not_false, decide_true, decide_false, ix_pr0, ix_pr1, if_pos m1, if_pos m2', if_pos m3, z1, z2, q, Nat.zero_add, Nat.reduceAdd, frac]
theorem ev_add_loop {W : Nat} {S0 : Sl} (hW : 0 < W) (hWM : W ≤ MB) : ∀ {ds : List PyData} {ns : List Nat} (N : Nat) (x : Sl), AllF W ds ns → N + ns.sum ≤ MB → ∃ y, forGo (pName 3) mAddB ds [S0, .val (.int (fU N W)), .val (.int (fD N W)), x] w0 = some (.nx, [S0, .val (.int (fU (N + ns.sum) W)), .val (.int (fD (N + ns.sum) W)), y], w0)
  | _, _, N, x, .nil, h => ⟨x, rfl⟩
  | _, _, N, x, .cons (d := d) (n := n) (ns := ns) hd hr, h => by
    rw [List.sum_cons] at h
    obtain ⟨y, e⟩ := ev_add_loop (S0 := S0) hW hWM (N + n) (.val d) hr (by omega)
    refine ⟨y, ?_⟩
    rw [forGo_cons]
    show ((mAddB [S0, .val (.int (fU N W)), .val (.int (fD N W)), .val d] w0).bind _) = _
    rw [ev_add_step (x := x) hW hWM (by omega) hd, Option.bind_some]
    show forGo _ _ _ _ _ = _
    rw [e, List.sum_cons, Nat.add_assoc]
theorem ev_L_added {W : Nat} {ds : List PyData} {ns : List Nat} (hW : 0 < W) (hWM : W ≤ MB) (h : AllF W ds ns) (hs : ns.sum ≤ MB) : G_L_added [.list ds] = some (frac ns.sum W) := by
  obtain ⟨y, e⟩ := ev_add_loop (S0 := .val (.list ds)) hW hWM 0 .no h (by omega)
  have z0 : fU 0 W = 0 := by unfold fU; simp
  have z1 : fD 0 W = 1 := by unfold fD; rw [Nat.gcd_zero_left]; exact Nat.div_self hW
  rw [z0, z1] at e
  have l2 : (2 : Nat) ≤ LB := by decide
  rw [Nat.zero_add] at e
  have e' : forGo (pName 3) mAddB ds [.val (.list ds), .val (.int 0), .val (.int 1), .no] w0 = _ := e
  simp only [G_L_added, m_L_added, runM, runS, env0, flD, cal, sSeq, sIf, sRet, sRetN, sDrop, sAsg, sOwn, sFrz, frz, sPar, sPar3, sNx, sNo, sBk, sCt, sApp, sExt, sSetIx, sAug, sFor, sWhile, m1, m2, mC, mVar, mLook, mAnd, mOr, mNot, mIte, mB, mV, mTru, dTru, mAndV, mOrV, mNotV, mNil, mCons, mTup, mLst, mF, mFS, mItems, mRng, mRng1, mRng2, mRng3, dRng1, dRng2, dRng3, mEnum, mZip, mCut, mNoP, mPt, mRev, mNeg, dNeg, dRev, dCut, mLc, mYes, pName, pTup, pNil, pCons, wipeS, dAdd, dSub, dMul, dDiv, dMod, dMulI, dAddI, dCmp, dIsN, dNotN, isNone, dLenX, dLen, seqOf, dAbs, dMax2, dMin2, dInt, dTuple, dList, dCatL, dRepL, mSt, mStLen, mStCell, sSt, sSt3, drwGet, drwSet, mCh2, mCh3, mCount, dCount, Option.bind_some, Option.map_some, Option.bind_none, Option.map_none, List.getElem?_cons_zero, List.getElem?_cons_succ, List.set_cons_zero, List.set_cons_succ, List.map_cons, List.map_nil, List.cons_append, List.nil_append, List.replicate_succ, List.replicate_zero, List.length_cons, List.length_nil, if_true, if_false, reduceIte, Bool.false_eq_true, Bool.not_true, Bool.not_false, decide_true, decide_false, Nat.zero_add, Nat.reduceAdd, if_pos l2]
  rw [show (sAsg (mF (cal 2 G_L_quotient) (mCons (m2 dAdd (m2 dMul (mLook 1) (m2 dIx (mLook 3) (mC (.int 1)))) (m2 dMul (m2 dIx (mLook 3) (mC (.int 0))) (mLook 2))) (mCons (m2 dMul (mLook 2) (m2 dIx (mLook 3) (mC (.int 1)))) mNil))) (pTup (pCons (pName 1) (pCons (pName 2) pNil)))) = mAddB from rfl, e']
  simp only [runM, runS, env0, flD, cal, sSeq, sIf, sRet, sRetN, sDrop, sAsg, sOwn, sFrz, frz, sPar, sPar3, sNx, sNo, sBk, sCt, sApp, sExt, sSetIx, sAug, sFor, sWhile, m1, m2, mC, mVar, mLook, mAnd, mOr, mNot, mIte, mB, mV, mTru, dTru, mAndV, mOrV, mNotV, mNil, mCons, mTup, mLst, mF, mFS, mItems, mRng, mRng1, mRng2, mRng3, dRng1, dRng2, dRng3, mEnum, mZip, mCut, mNoP, mPt, mRev, mNeg, dNeg, dRev, dCut, mLc, mYes, pName, pTup, pNil, pCons, wipeS, dAdd, dSub, dMul, dDiv, dMod, dMulI, dAddI, dCmp, dIsN, dNotN, isNone, dLenX, dLen, seqOf, dAbs, dMax2, dMin2, dInt, dTuple, dList, dCatL, dRepL, mSt, mStLen, mStCell, sSt, sSt3, drwGet, drwSet, mCh2, mCh3, mCount, dCount, Option.bind_some, Option.map_some, Option.bind_none, Option.map_none, List.getElem?_cons_zero, List.getElem?_cons_succ, List.set_cons_zero, List.set_cons_succ, List.map_cons, List.map_nil, List.cons_append, List.nil_append, List.replicate_succ, List.replicate_zero, List.length_cons, List.length_nil, if_true, if_false, reduceIte, Bool.false_eq_true, Bool.not_true, Bool.not_false, decide_true, decide_false, Nat.zero_add, Nat.reduceAdd, if_pos l2]
  rfl
theorem rep_one {α : Type} (n : Nat) (x : α) : (List.replicate n [x]).flatten = List.replicate n x := by
  induction n with
  | zero => rfl
  | succ n ih => rw [List.replicate_succ, List.flatten_cons, ih, List.replicate_succ]; rfl
/-! ### the table -/
def wStp (d : Nat) (R : List Int) (k : Nat) : Int := R.getD k 0 * (k : Nat) + (if k = 0 then 0 else R.getD (k - 1) 0 * ((d : Int) - (k : Nat) + 1))
def wRow (d : Nat) : Nat → List Int
  | 0 => 1 :: List.replicate d 0
  | c + 1 => (List.range (d + 1)).map (wStp d (wRow d c))
theorem wRow_len (d : Nat) : ∀ c, (wRow d c).length = d + 1
  | 0 => by simp [wRow]
  | c + 1 => by simp [wRow]
def wEnv (d c k : Nat) (s : Sl) : SEnv := [.val (.int d), .val (.int c), .val (.list ((wRow d k).map .int)), .val (.int ((d : Int) ^ k)), s, .no]
def mW : ME := m2 dAdd (m2 dMul (m2 dIx (mLook 2) (mLook 5)) (mLook 5)) (mIte (mTru (mLook 5)) (m2 dMul (m2 dIx (mLook 2) (m2 dSub (mLook 5) (mC (.int 1)))) (m2 dAdd (m2 dSub (mLook 0) (mLook 5)) (mC (.int 1)))) (mC (.int 0)))
theorem ev_cell {d c k j : Nat} {s : Sl} (hd2 : d ≤ 40) (hj : j < d + 1) : mW ((wEnv d c k s).set 5 (.val (.int (j : Nat)))) w0 = some (.int (wStp d (wRow d k) j), w0) := by
  have i1 := ix_ints (R := wRow d k) (k := j) (by rw [wRow_len]; exact hj)
  have m1 : mulOk ((wRow d k).getD j 0) (j : Nat) := mulOk_r (by omega) (by omega)
  by_cases h0 : j = 0
  · subst h0
    have hb : (((0 : Nat) : Int) != 0) = false := by decide
    simp only [mW, wEnv, runM, runS, env0, flD, cal, sSeq, sIf, sRet, sRetN, sDrop, sAsg, sOwn, sFrz, frz, sPar, sPar3, sNx, sNo, sBk, sCt, sApp, sExt, sSetIx, sAug, sFor, sWhile, m1, m2, mC, mVar, mLook, mAnd, mOr, mNot, mIte, mB, mV, mTru, dTru, mAndV, mOrV, mNotV, mNil, mCons, mTup, mLst, mF, mFS, mItems, mRng, mRng1, mRng2, mRng3, dRng1, dRng2, dRng3, mEnum, mZip, mCut, mNoP, mPt, mRev, mNeg, dNeg, dRev, dCut, mLc, mYes, pName, pTup, pNil, pCons, wipeS, dAdd, dSub, dMul, dDiv, dMod, dMulI, dAddI, dCmp, dIsN, dNotN, isNone, dLenX, dLen, seqOf, dAbs, dMax2, dMin2, dInt, dTuple, dList, dCatL, dRepL, mSt, mStLen, mStCell, sSt, sSt3, drwGet, drwSet, mCh2, mCh3, mCount, dCount, Option.bind_some, Option.map_some, Option.bind_none, Option.map_none, List.getElem?_cons_zero, List.getElem?_cons_succ, List.set_cons_zero, List.set_cons_succ, List.map_cons, List.map_nil, List.cons_append, List.nil_append, List.replicate_succ, List.replicate_zero, List.length_cons, List.length_nil, if_true, if_false, reduceIte, Bool.false_eq_true, Bool.not_true, Bool.not_false, decide_true, decide_false, i1, if_pos m1, hb, wStp]
  · have hb : (((j : Nat) : Int) != 0) = true := by simp; omega
    have e1 : ((j : Nat) : Int) - 1 = ((j - 1 : Nat) : Int) := by omega
    have i2 := ix_ints (R := wRow d k) (k := j - 1) (by rw [wRow_len]; omega)
    have m2' : mulOk ((wRow d k).getD (j - 1) 0) ((d : Int) - (j : Nat) + 1) := mulOk_r (by omega) (by omega)
    simp only [mW, wEnv, runM, runS, env0, flD, cal, sSeq, sIf, sRet, sRetN, sDrop, sAsg, sOwn, sFrz, frz, sPar, sPar3, sNx, sNo, sBk, sCt, sApp, sExt, sSetIx, sAug, sFor, sWhile, m1, m2, mC, mVar, mLook, mAnd, mOr, mNot, mIte, mB, mV, mTru, dTru, mAndV, mOrV, mNotV, mNil, mCons, mTup, mLst, mF, mFS, mItems, mRng, mRng1, mRng2, mRng3, dRng1, dRng2, dRng3, mEnum, mZip, mCut, mNoP, mPt, mRev, mNeg, dNeg, dRev, dCut, mLc, mYes, pName, pTup, pNil, pCons, wipeS, dAdd, dSub, dMul, dDiv, dMod, dMulI, dAddI, dCmp, dIsN, dNotN, isNone, dLenX, dLen, seqOf, dAbs, dMax2, dMin2, dInt, dTuple, dList, dCatL, dRepL, mSt, mStLen, mStCell, sSt, sSt3, drwGet, drwSet, mCh2, mCh3, mCount, dCount, Option.bind_some, Option.map_some, Option.bind_none, Option.map_none, List.getElem?_cons_zero, List.getElem?_cons_succ, List.set_cons_zero, List.set_cons_succ, List.map_cons, List.map_nil, List.cons_append, List.nil_append, List.replicate_succ, List.replicate_zero, List.length_cons, List.length_nil, if_true, if_false, reduceIte, Bool.false_eq_true, Bool.not_true, Bool.not_false, decide_true, decide_false, i1, if_pos m1, hb, e1, i2, if_pos m2', wStp, if_neg h0]
theorem ev_row {d c k : Nat} {s : Sl} (hd2 : d ≤ 40) : lcGo (pName 5) mYes mW (wEnv d c k s) (rngD 0 1 (d + 1)) w0 = some ((wRow d (k + 1)).map .int, w0) := by
  rw [lc_rng (f := fun z => .int (wStp d (wRow d k) z.toNat)) fun j hj => ?_]
  · simp only [wRow, List.map_map]
    congr 2
    refine List.map_congr_left fun x _ => ?_
    simp only [Function.comp, Int.zero_add, Int.toNat_natCast]
  · refine ⟨_, rfl, ?_⟩
    simp only [Int.zero_add, Int.toNat_natCast]
    exact ev_cell hd2 hj
def mWb : MS := sSeq (sAsg (mLc (mRng1 (mCons (m2 dAdd (mLook 0) (mC (.int 1))) mNil)) (pName 5) mYes mW [5]) (pName 2)) (sAug dMulI 3 (mLook 0))
theorem ev_turn {d c k : Nat} (hd2 : d ≤ 40) (s : Sl) : mWb (wEnv d c k s) w0 = some (.nx, wEnv d c (k + 1) s, w0) := by
  have sm := smallI_of (i := ((d : Int) + 1)) (by omega) (by omega)
  have tn : ((d : Int) + 1).toNat = d + 1 := by omega
  have m1 : mulOk ((d : Int) ^ k) d := mulOk_r (by omega) (by omega)
  have ln : ((wRow d (k + 1)).map PyData.int).length ≤ LB := by rw [List.length_map, wRow_len]; show d + 1 ≤ 1000000; omega
  have r := ev_row (c := c) (k := k) (s := s) hd2
  simp only [wEnv] at r
  simp only [mWb, wEnv, runM, runS, env0, flD, cal, sSeq, sIf, sRet, sRetN, sDrop, sAsg, sOwn, sFrz, frz, sPar, sPar3, sNx, sNo, sBk, sCt, sApp, sExt, sSetIx, sAug, sFor, sWhile, m1, m2, mC, mVar, mLook, mAnd, mOr, mNot, mIte, mB, mV, mTru, dTru, mAndV, mOrV, mNotV, mNil, mCons, mTup, mLst, mF, mFS, mItems, mRng, mRng1, mRng2, mRng3, dRng1, dRng2, dRng3, mEnum, mZip, mCut, mNoP, mPt, mRev, mNeg, dNeg, dRev, dCut, mLc, mYes, pName, pTup, pNil, pCons, wipeS, dAdd, dSub, dMul, dDiv, dMod, dMulI, dAddI, dCmp, dIsN, dNotN, isNone, dLenX, dLen, seqOf, dAbs, dMax2, dMin2, dInt, dTuple, dList, dCatL, dRepL, mSt, mStLen, mStCell, sSt, sSt3, drwGet, drwSet, mCh2, mCh3, mCount, dCount, Option.bind_some, Option.map_some, Option.bind_none, Option.map_none, List.getElem?_cons_zero, List.getElem?_cons_succ, List.set_cons_zero, List.set_cons_succ, List.map_cons, List.map_nil, List.cons_append, List.nil_append, List.replicate_succ, List.replicate_zero, List.length_cons, List.length_nil, if_true, if_false, reduceIte, Bool.false_eq_true, Bool.not_true, Bool.not_false, decide_true, decide_false, if_pos sm, tn, r, if_pos ln, if_pos m1, Int.pow_succ]
theorem ev_loop {d c : Nat} (hd2 : d ≤ 40) : ∀ (n k : Nat) (s : Sl), ∃ s', forGo (pName 4) mWb (rngD (k : Nat) 1 n) (wEnv d c k s) w0 = some (.nx, wEnv d c (k + n) s', w0)
  | 0, k, s => ⟨s, rfl⟩
  | n + 1, k, s => by
    obtain ⟨s', e⟩ := ev_loop hd2 n (k + 1) (.val (.int (k : Nat)))
    refine ⟨s', ?_⟩
    rw [rngD_succ, forGo_cons]
    show ((mWb (wEnv d c k (.val (.int (k : Nat)))) w0).bind _) = _
    rw [ev_turn hd2, Option.bind_some]
    show forGo (pName 4) mWb (rngD ((k : Nat) + 1) 1 n) _ w0 = _
    have e1 : ((k : Nat) : Int) + 1 = ((k + 1 : Nat) : Int) := by omega
    rw [e1, e]
    congr 3
    congr 1
    omega
theorem ev_ways_table {d c : Nat} (hd2 : d ≤ 40) (hc : c ≤ 61) : G_ways_table [.int d, .int c] = some (.tuple [.list ((wRow d c).map .int), .int ((d : Int) ^ c)]) := by
  obtain ⟨s', loop⟩ := ev_loop (c := c) hd2 c 0 .no
  have sm := smallI_of (i := (c : Int)) (by omega) (by omega)
  have tn : ((c : Int)).toNat = c := by omega
  have hl1 : (1 : Nat) ≤ LB := by decide
  have c1 : (0 : Int) ≤ (d : Int) ∧ (d : Int).natAbs ≤ 1000000 ∧ 1 * (d : Int).toNat ≤ LB := ⟨by omega, by omega, by show 1 * (d : Int).toNat ≤ 1000000; omega⟩
  have c2 : (1 : Nat) + (List.replicate (d : Int).toNat [PyData.int 0]).flatten.length ≤ LB := by
    rw [rep_len]; show 1 + 1 * (d : Int).toNat ≤ 1000000; omega
  have c3 : (List.replicate (d : Int).toNat [PyData.int 0]).flatten = List.replicate d (.int 0) := by
    rw [show (d : Int).toNat = d from by omega]
    exact rep_one d _
  have l2 : (2 : Nat) ≤ LB := by decide
  have e0 : wEnv d c 0 .no = [.val (.int d), .val (.int c), .val (.list (.int 1 :: List.replicate d (.int 0))), .val (.int 1), .no, .no] := by
    simp [wEnv, wRow]
  rw [e0] at loop
  have z : ((0 : Nat) : Int) = 0 := rfl
  rw [z] at loop
  simp only [G_ways_table, m_ways_table, runM, runS, env0, flD, cal, sSeq, sIf, sRet, sRetN, sDrop, sAsg, sOwn, sFrz, frz, sPar, sPar3, sNx, sNo, sBk, sCt, sApp, sExt, sSetIx, sAug, sFor, sWhile, m1, m2, mC, mVar, mLook, mAnd, mOr, mNot, mIte, mB, mV, mTru, dTru, mAndV, mOrV, mNotV, mNil, mCons, mTup, mLst, mF, mFS, mItems, mRng, mRng1, mRng2, mRng3, dRng1, dRng2, dRng3, mEnum, mZip, mCut, mNoP, mPt, mRev, mNeg, dNeg, dRev, dCut, mLc, mYes, pName, pTup, pNil, pCons, wipeS, dAdd, dSub, dMul, dDiv, dMod, dMulI, dAddI, dCmp, dIsN, dNotN, isNone, dLenX, dLen, seqOf, dAbs, dMax2, dMin2, dInt, dTuple, dList, dCatL, dRepL, mSt, mStLen, mStCell, sSt, sSt3, drwGet, drwSet, mCh2, mCh3, mCount, dCount, Option.bind_some, Option.map_some, Option.bind_none, Option.map_none, List.getElem?_cons_zero, List.getElem?_cons_succ, List.set_cons_zero, List.set_cons_succ, List.map_cons, List.map_nil, List.cons_append, List.nil_append, List.replicate_succ, List.replicate_zero, List.length_cons, List.length_nil, if_true, if_false, reduceIte, Bool.false_eq_true, Bool.not_true, Bool.not_false, decide_true, decide_false, Nat.zero_add, if_pos hl1, if_pos c1, if_pos c2]
  rw [c3]
  rw [show (sSeq (sAsg (mLc (mRng1 (mCons (m2 dAdd (mLook 0) (mC (.int 1))) mNil)) (pName 5) mYes (m2 dAdd (m2 dMul (m2 dIx (mLook 2) (mLook 5)) (mLook 5)) (mIte (mTru (mLook 5)) (m2 dMul (m2 dIx (mLook 2) (m2 dSub (mLook 5) (mC (.int 1)))) (m2 dAdd (m2 dSub (mLook 0) (mLook 5)) (mC (.int 1)))) (mC (.int 0)))) [5]) (pName 2)) (sAug dMulI 3 (mLook 0))) = mWb from rfl]
  simp only [runM, runS, env0, flD, cal, sSeq, sIf, sRet, sRetN, sDrop, sAsg, sOwn, sFrz, frz, sPar, sPar3, sNx, sNo, sBk, sCt, sApp, sExt, sSetIx, sAug, sFor, sWhile, m1, m2, mC, mVar, mLook, mAnd, mOr, mNot, mIte, mB, mV, mTru, dTru, mAndV, mOrV, mNotV, mNil, mCons, mTup, mLst, mF, mFS, mItems, mRng, mRng1, mRng2, mRng3, dRng1, dRng2, dRng3, mEnum, mZip, mCut, mNoP, mPt, mRev, mNeg, dNeg, dRev, dCut, mLc, mYes, pName, pTup, pNil, pCons, wipeS, dAdd, dSub, dMul, dDiv, dMod, dMulI, dAddI, dCmp, dIsN, dNotN, isNone, dLenX, dLen, seqOf, dAbs, dMax2, dMin2, dInt, dTuple, dList, dCatL, dRepL, mSt, mStLen, mStCell, sSt, sSt3, drwGet, drwSet, mCh2, mCh3, mCount, dCount, Option.bind_some, Option.map_some, Option.bind_none, Option.map_none, List.getElem?_cons_zero, List.getElem?_cons_succ, List.set_cons_zero, List.set_cons_succ, List.map_cons, List.map_nil, List.cons_append, List.nil_append, List.replicate_succ, List.replicate_zero, List.length_cons, List.length_nil, if_true, if_false, reduceIte, Bool.false_eq_true, Bool.not_true, Bool.not_false, decide_true, decide_false, if_pos sm, tn, loop]
  simp only [wEnv, runM, runS, env0, flD, cal, sSeq, sIf, sRet, sRetN, sDrop, sAsg, sOwn, sFrz, frz, sPar, sPar3, sNx, sNo, sBk, sCt, sApp, sExt, sSetIx, sAug, sFor, sWhile, m1, m2, mC, mVar, mLook, mAnd, mOr, mNot, mIte, mB, mV, mTru, dTru, mAndV, mOrV, mNotV, mNil, mCons, mTup, mLst, mF, mFS, mItems, mRng, mRng1, mRng2, mRng3, dRng1, dRng2, dRng3, mEnum, mZip, mCut, mNoP, mPt, mRev, mNeg, dNeg, dRev, dCut, mLc, mYes, pName, pTup, pNil, pCons, wipeS, dAdd, dSub, dMul, dDiv, dMod, dMulI, dAddI, dCmp, dIsN, dNotN, isNone, dLenX, dLen, seqOf, dAbs, dMax2, dMin2, dInt, dTuple, dList, dCatL, dRepL, mSt, mStLen, mStCell, sSt, sSt3, drwGet, drwSet, mCh2, mCh3, mCount, dCount, Option.bind_some, Option.map_some, Option.bind_none, Option.map_none, List.getElem?_cons_zero, List.getElem?_cons_succ, List.set_cons_zero, List.set_cons_succ, List.map_cons, List.map_nil, List.cons_append, List.nil_append, List.replicate_succ, List.replicate_zero, List.length_cons, List.length_nil, if_true, if_false, reduceIte, Bool.false_eq_true, Bool.not_true, Bool.not_false, decide_true, decide_false, Nat.zero_add, Nat.reduceAdd, if_pos l2]
/-! ### the row as a function -/
def r (d : Nat) : Nat → Nat → Nat
  | 0, k => if k = 0 then 1 else 0
  | c + 1, k => r d c k * k + (if k = 0 then 0 else r d c (k - 1) * (d - k + 1))
def S (f : Nat → Nat) : Nat → Nat
  | 0 => 0
  | n + 1 => S f n + f n
theorem S_range (f : Nat → Nat) (n : Nat) : ((List.range n).map f).sum = S f n := by
  induction n with
  | zero => rfl
  | succ n ih => rw [List.range_succ, List.map_append, List.sum_append, ih]; simp [S]
theorem S_congr {f g : Nat → Nat} : ∀ {n : Nat}, (∀ k, k < n → f k = g k) → S f n = S g n
  | 0, _ => rfl
  | n + 1, h => by
    unfold S
    rw [S_congr fun k hk => h k (by omega), h n (by omega)]
theorem S_le {f : Nat → Nat} : ∀ {n k : Nat}, k < n → f k ≤ S f n
  | n + 1, k, h => by
    unfold S
    by_cases e : k = n
    · subst e; omega
    · have := S_le (f := f) (n := n) (k := k) (by omega)
      omega
theorem sum_step (d c : Nat) : ∀ n, n ≤ d → S (r d (c + 1)) (n + 1) + r d c n * (d - n) = d * S (r d c) (n + 1)
  | 0, _ => by simp [S, r, Nat.mul_comm]
  | n + 1, h => by
    have ih := sum_step d c n (by omega)
    have e1 : S (r d (c + 1)) (n + 2) = S (r d (c + 1)) (n + 1) + r d (c + 1) (n + 1) := rfl
    have e2 : S (r d c) (n + 2) = S (r d c) (n + 1) + r d c (n + 1) := rfl
    have e3 : r d (c + 1) (n + 1) = r d c (n + 1) * (n + 1) + r d c n * (d - n) := by
      show r d c (n + 1) * (n + 1) + (if n + 1 = 0 then 0 else r d c (n + 1 - 1) * (d - (n + 1) + 1)) = _
      rw [if_neg (Nat.succ_ne_zero n), Nat.add_sub_cancel, show d - (n + 1) + 1 = d - n from by omega]
    obtain ⟨m, rfl⟩ : ∃ m, d = n + 1 + m := ⟨d - (n + 1), by omega⟩
    rw [show n + 1 + m - n = m + 1 from by omega] at *
    rw [Nat.add_sub_cancel_left]
    rw [e1, e2, e3]
    grind
theorem S_row (d : Nat) : ∀ c, S (r d c) (d + 1) = d ^ c
  | 0 => by
    have : ∀ n, S (r d 0) (n + 1) = 1 := fun n => by
      induction n with
      | zero => rfl
      | succ n ih => 
        show S (r d 0) (n + 1) + r d 0 (n + 1) = 1
        rw [ih]; rfl
    rw [this]; rfl
  | c + 1 => by
    have h := sum_step d c d (Nat.le_refl _)
    rw [Nat.sub_self, Nat.mul_zero, Nat.add_zero, S_row d c] at h
    rw [h, Nat.pow_succ, Nat.mul_comm]
def T (f : Nat → Nat) (n : Nat) : Nat := S (fun k => k * f k) n
theorem mean_step (d c : Nat) (hd : 1 ≤ d) : ∀ n, n ≤ d → T (r d (c + 1)) (n + 1) + (n + 1) * (r d c n * (d - n)) = (d - 1) * T (r d c) (n + 1) + d * S (r d c) (n + 1)
  | 0, _ => by simp [T, S, r, Nat.mul_comm]
  | n + 1, h => by
    have ih := mean_step d c hd n (by omega)
    have e1 : T (r d (c + 1)) (n + 2) = T (r d (c + 1)) (n + 1) + (n + 1) * r d (c + 1) (n + 1) := rfl
    have e2 : S (r d c) (n + 2) = S (r d c) (n + 1) + r d c (n + 1) := rfl
    have e5 : T (r d c) (n + 2) = T (r d c) (n + 1) + (n + 1) * r d c (n + 1) := rfl
    have e3 : r d (c + 1) (n + 1) = r d c (n + 1) * (n + 1) + r d c n * (d - n) := by
      show r d c (n + 1) * (n + 1) + (if n + 1 = 0 then 0 else r d c (n + 1 - 1) * (d - (n + 1) + 1)) = _
      rw [if_neg (Nat.succ_ne_zero n), Nat.add_sub_cancel, show d - (n + 1) + 1 = d - n from by omega]
    obtain ⟨m, rfl⟩ : ∃ m, d = n + 1 + m := ⟨d - (n + 1), by omega⟩
    rw [show n + 1 + m - n = m + 1 from by omega] at *
    rw [show n + 1 + m - 1 = n + m from by omega] at *
    rw [Nat.add_sub_cancel_left]
    rw [e1, e2, e5, e3]
    grind
theorem T_row (d : Nat) (hd : 1 ≤ d) : ∀ c, T (r d c) (d + 1) + d * (d - 1) ^ c = d * d ^ c
  | 0 => by
    have : ∀ n, T (r d 0) (n + 1) = 0 := fun n => by
      induction n with
      | zero => rfl
      | succ n ih =>
        show T (r d 0) (n + 1) + (n + 1) * r d 0 (n + 1) = 0
        rw [ih]; rfl
    rw [this]; simp
  | c + 1 => by
    have h := mean_step d c hd d (Nat.le_refl _)
    have ih := T_row d hd c
    rw [Nat.sub_self, Nat.mul_zero, Nat.mul_zero, Nat.add_zero, S_row d c] at h
    rw [h]
    obtain ⟨e, rfl⟩ : ∃ e, d = e + 1 := ⟨d - 1, by omega⟩
    rw [Nat.add_sub_cancel] at *
    rw [Nat.pow_succ e c, Nat.pow_succ (e + 1) c]
    generalize T (r (e + 1) c) (e + 1 + 1) = t at *
    generalize (e + 1) ^ c = p at *
    generalize e ^ c = q at *
    grind
theorem getD_map_range {f : Nat → Int} {n k : Nat} (h : k < n) : ((List.range n).map f).getD k 0 = f k := by
  rw [List.getD_eq_getElem?_getD, List.getElem?_map, List.getElem?_range h]
  rfl
theorem wRow_r (d : Nat) : ∀ c, wRow d c = (List.range (d + 1)).map fun k => ((r d c k : Nat) : Int)
  | 0 => by
    show 1 :: List.replicate d 0 = _
    rw [List.range_succ_eq_map, List.map_cons, List.map_map]
    congr 1
    refine (List.eq_replicate_iff.mpr ⟨by simp, fun b hb => ?_⟩).symm
    obtain ⟨k, _, rfl⟩ := List.mem_map.mp hb
    rfl
  | c + 1 => by
    show (List.range (d + 1)).map (wStp d (wRow d c)) = _
    refine List.map_congr_left fun k hk => ?_
    have hk := List.mem_range.mp hk
    unfold wStp
    rw [wRow_r d c, getD_map_range hk]
    show _ = ((r d c k * k + (if k = 0 then 0 else r d c (k - 1) * (d - k + 1)) : Nat) : Int)
    by_cases h0 : k = 0
    · rw [if_pos h0, if_pos h0]; simp
    · rw [if_neg h0, if_neg h0, getD_map_range (by omega)]
      have : ((d - k + 1 : Nat) : Int) = (d : Int) - (k : Nat) + 1 := by omega
      rw [Int.natCast_add, Int.natCast_mul, Int.natCast_mul, this]
theorem pow_MB {d c : Nat} (hd : d ≤ 40) (hc : c ≤ 62) : d ^ c ≤ 2 ^ 372 := by
  have h1 : d ^ c ≤ 64 ^ c := Nat.pow_le_pow_left (by omega) c
  have h2 : 64 ^ c ≤ 64 ^ 62 := Nat.pow_le_pow_right (by decide) hc
  have h3 : (64 : Nat) ^ 62 = 2 ^ 372 := by decide +kernel
  omega
theorem p372 : (2 : Nat) ^ 372 * 10000 ≤ MB := by unfold MB; decide +kernel
theorem dn_MB {n : Nat} (h : n ≤ 2 ^ 372 * 10000) : n ≤ MB := Nat.le_trans h p372
theorem up_MB {n : Nat} (h : n ≤ MB) : n ≤ 2 * (MB * MB) := Nat.le_trans h (Nat.le_trans (Nat.le_mul_of_pos_right MB (by unfold MB; exact Nat.two_pow_pos _)) (Nat.le_mul_of_pos_left _ (by decide)))
theorem r_le {d c k : Nat} (h : k ≤ d) : r d c k ≤ d ^ c := by
  rw [← S_row d c]
  exact S_le (by omega)
theorem T_le (f : Nat → Nat) : ∀ n, T f (n + 1) ≤ n * S f (n + 1)
  | 0 => by simp [T, S]
  | n + 1 => by
    have ih := T_le f n
    have e1 : T f (n + 2) = T f (n + 1) + (n + 1) * f (n + 1) := rfl
    have e2 : S f (n + 2) = S f (n + 1) + f (n + 1) := rfl
    rw [e1, e2, Nat.mul_add]
    have : n * S f (n + 1) ≤ (n + 1) * S f (n + 1) := Nat.mul_le_mul_right _ (by omega)
    omega
theorem lc_nats {p : MG} {e : ME} {S : SEnv} {w : Drw} {g f : Nat → PyData} : ∀ {ks : List Nat}, (∀ k ∈ ks, ∃ S1, p (g k) S = some S1 ∧ e S1 w = some (f k, w)) → lcGo p mYes e S (ks.map g) w = some (ks.map f, w)
  | [], _ => rfl
  | k :: ks, h => by
    obtain ⟨S1, h1, h2⟩ := h k List.mem_cons_self
    rw [List.map_cons, lcGo_cons, h1, Option.bind_some, show mYes S1 w = some (true, w) from rfl, Option.bind_some, if_pos rfl, h2, Option.bind_some, lc_nats fun x hx => h x (List.mem_cons_of_mem _ hx)]
    rfl
def chD (d c : Nat) : List PyData := (List.range (d + 1)).map fun k => frac (r d c k) (d ^ c)
theorem ev_chances_seen {d c : Nat} (h1 : 1 ≤ d) (hd : d ≤ 40) (hc : c ≤ 60) : G_chances_seen [.int d, .int c] = some (.tuple (chD d c)) := by
  have q1 := ev_check_dies (i := d) (by omega) (by omega) (.str "dies")
  have q2 := ev_check_coins (i := c) (by omega) (by omega)
  have q3 := ev_ways_table hd (show c ≤ 61 by omega)
  have pw := pow_MB hd (show c ≤ 62 by omega)
  have pp : 0 < d ^ c := Nat.pow_pos h1
  have cast : ((d : Int) ^ c) = ((d ^ c : Nat) : Int) := (Int.natCast_pow d c).symm
  rw [cast, wRow_r, List.map_map] at q3
  have hl : lcGo (pName 4) mYes (mF (cal 2 G_quotient) (mCons (mVar 4) (mCons (mVar 3) mNil))) [.val (.int d), .val (.int c), .val (.list ((List.range (d + 1)).map (PyData.int ∘ fun k => ((r d c k : Nat) : Int)))), .val (.int ((d ^ c : Nat) : Int)), .no]
      ((List.range (d + 1)).map (PyData.int ∘ fun k => ((r d c k : Nat) : Int))) w0 = some (chD d c, w0) := by
    refine lc_nats (f := fun k => frac (r d c k) (d ^ c)) fun k hk => ?_
    have hk := List.mem_range.mp hk
    have rl := r_le (c := c) (show k ≤ d by omega)
    have q := ev_quotient (u := r d c k) (d := d ^ c) (up_MB (dn_MB (by omega))) pp (up_MB (dn_MB (by omega)))
    refine ⟨_, rfl, ?_⟩
    simp only [runM, runS, env0, flD, cal, sSeq, sIf, sRet, sRetN, sDrop, sAsg, sOwn, sFrz, frz, sPar, sPar3, sNx, sNo, sBk, sCt, sApp, sExt, sSetIx, sAug, sFor, sWhile, m1, m2, mC, mVar, mLook, mAnd, mOr, mNot, mIte, mB, mV, mTru, dTru, mAndV, mOrV, mNotV, mNil, mCons, mTup, mLst, mF, mFS, mItems, mRng, mRng1, mRng2, mRng3, dRng1, dRng2, dRng3, mEnum, mZip, mCut, mNoP, mPt, mRev, mNeg, dNeg, dRev, dCut, mLc, mYes, pName, pTup, pNil, pCons, wipeS, dAdd, dSub, dMul, dDiv, dMod, dMulI, dAddI, dCmp, dIsN, dNotN, isNone, dLenX, dLen, seqOf, dAbs, dMax2, dMin2, dInt, dTuple, dList, dCatL, dRepL, mSt, mStLen, mStCell, sSt, sSt3, drwGet, drwSet, mCh2, mCh3, mCount, dCount, Option.bind_some, Option.map_some, Option.bind_none, Option.map_none, List.getElem?_cons_zero, List.getElem?_cons_succ, List.set_cons_zero, List.set_cons_succ, List.map_cons, List.map_nil, List.cons_append, List.nil_append, List.replicate_succ, List.replicate_zero, List.length_cons, List.length_nil, if_true, if_false, reduceIte, Bool.false_eq_true, Bool.not_true, Bool.not_false, decide_true, decide_false, Nat.zero_add, Nat.reduceAdd, Function.comp, q]
  have hlen : (chD d c).length ≤ LB := by unfold chD; rw [List.length_map, List.length_range]; show d + 1 ≤ 1000000; omega
  simp only [G_chances_seen, m_chances_seen, runM, runS, env0, flD, cal, sSeq, sIf, sRet, sRetN, sDrop, sAsg, sOwn, sFrz, frz, sPar, sPar3, sNx, sNo, sBk, sCt, sApp, sExt, sSetIx, sAug, sFor, sWhile, m1, m2, mC, mVar, mLook, mAnd, mOr, mNot, mIte, mB, mV, mTru, dTru, mAndV, mOrV, mNotV, mNil, mCons, mTup, mLst, mF, mFS, mItems, mRng, mRng1, mRng2, mRng3, dRng1, dRng2, dRng3, mEnum, mZip, mCut, mNoP, mPt, mRev, mNeg, dNeg, dRev, dCut, mLc, mYes, pName, pTup, pNil, pCons, wipeS, dAdd, dSub, dMul, dDiv, dMod, dMulI, dAddI, dCmp, dIsN, dNotN, isNone, dLenX, dLen, seqOf, dAbs, dMax2, dMin2, dInt, dTuple, dList, dCatL, dRepL, mSt, mStLen, mStCell, sSt, sSt3, drwGet, drwSet, mCh2, mCh3, mCount, dCount, Option.bind_some, Option.map_some, Option.bind_none, Option.map_none, List.getElem?_cons_zero, List.getElem?_cons_succ, List.set_cons_zero, List.set_cons_succ, List.map_cons, List.map_nil, List.cons_append, List.nil_append, List.replicate_succ, List.replicate_zero, List.length_cons, List.length_nil, if_true, if_false, reduceIte, Bool.false_eq_true, Bool.not_true, Bool.not_false, decide_true, decide_false, Nat.zero_add, Nat.reduceAdd, q1, q2, q3, hl, if_pos hlen]
theorem enumD_range (g : Nat → PyData) : ∀ (n s : Nat), enumD s ((List.range n).map fun k => g (s + k)) = (List.range n).map fun k => .tuple [.int ((s + k : Nat) : Int), g (s + k)]
  | 0, _ => rfl
  | n + 1, s => by
    rw [List.range_succ_eq_map, List.map_cons, List.map_cons, List.map_map, List.map_map]
    show PyData.tuple [.int ((s : Nat) : Int), g (s + 0)] :: enumD (s + 1) _ = _
    have ih := enumD_range g n (s + 1)
    have e : ((fun k => g (s + k)) ∘ Nat.succ) = fun k => g (s + 1 + k) := by
      funext k; simp only [Function.comp]; congr 1; omega
    rw [e, ih]
    congr 1
    refine List.map_congr_left fun k _ => ?_
    simp only [Function.comp]
    rw [show s + 1 + k = s + k.succ from by omega]
theorem enumD_range0 (g : Nat → PyData) (n : Nat) : enumD 0 ((List.range n).map g) = (List.range n).map fun k => .tuple [.int ((k : Nat) : Int), g k] := by
  have h := enumD_range g n 0
  simp only [Nat.zero_add] at h
  exact h
theorem sum_cast (f : Nat → Nat) (ks : List Nat) : (ks.map fun k => ((f k : Nat) : Int)).sum = (((ks.map f).sum : Nat) : Int) := by
  induction ks with
  | nil => rfl
  | cons k ks ih => rw [List.map_cons, List.map_cons, List.sum_cons, List.sum_cons, ih]; simp
theorem dSum_nats (f : Nat → Nat) (ks : List Nat) : dSum [.list (ks.map fun k => .int ((f k : Nat) : Int))] = some (.int (((ks.map f).sum : Nat) : Int)) := by
  have e : (ks.map fun k => PyData.int ((f k : Nat) : Int)) = (ks.map fun k => ((f k : Nat) : Int)).map .int := by rw [List.map_map]; rfl
  show ((some (ks.map fun k => PyData.int ((f k : Nat) : Int))).bind fun xs => (intsOf xs).map fun ns => PyData.int ns.sum) = _
  rw [Option.bind_some, e, intsOf_map, Option.map_some, sum_cast]
theorem dSum_natsT (f : Nat → Nat) (ks : List Nat) : dSum [.tuple (ks.map fun k => .int ((f k : Nat) : Int))] = some (.int (((ks.map f).sum : Nat) : Int)) := dSum_nats f ks
theorem T_MB {d c : Nat} (hd : d ≤ 40) (hc : c ≤ 62) : T (r d c) (d + 1) ≤ 2 ^ 372 * 40 := by
  have h1 := T_le (r d c) d
  rw [S_row] at h1
  have h2 := pow_MB hd hc
  have h3 : d * d ^ c ≤ 40 * 2 ^ 372 := Nat.mul_le_mul hd h2
  omega
theorem ev_mean_seen {d c : Nat} (h1 : 1 ≤ d) (hd : d ≤ 40) (hc : c ≤ 60) : G_mean_seen [.int d, .int c] = some (frac (T (r d c) (d + 1)) (d ^ c)) := by
  have q1 := ev_check_dies (i := d) (by omega) (by omega) (.str "dies")
  have q2 := ev_check_coins (i := c) (by omega) (by omega)
  have q3 := ev_ways_table hd (show c ≤ 61 by omega)
  have pw := pow_MB hd (show c ≤ 62 by omega)
  have pp : 0 < d ^ c := Nat.pow_pos h1
  have tm := T_MB hd (show c ≤ 62 by omega)
  have cast : ((d : Int) ^ c) = ((d ^ c : Nat) : Int) := (Int.natCast_pow d c).symm
  rw [cast, wRow_r, List.map_map] at q3
  have hl : lcGo (pTup (pCons (pName 4) (pCons (pName 5) pNil))) mYes (m2 dMul (mLook 4) (mLook 5)) [.val (.int d), .val (.int c), .val (.list ((List.range (d + 1)).map (PyData.int ∘ fun k => ((r d c k : Nat) : Int)))), .val (.int ((d ^ c : Nat) : Int)), .no, .no]
      ((List.range (d + 1)).map fun k => .tuple [.int ((k : Nat) : Int), (PyData.int ∘ fun k => ((r d c k : Nat) : Int)) k]) w0 = some ((List.range (d + 1)).map fun k => .int ((k * r d c k : Nat) : Int), w0) := by
    refine lc_nats fun k hk => ?_
    have hk := List.mem_range.mp hk
    refine ⟨_, rfl, ?_⟩
    have m1 : mulOk ((k : Nat) : Int) ((r d c k : Nat) : Int) := mulOk_l (by omega) (by omega)
    simp only [runM, runS, env0, flD, cal, sSeq, sIf, sRet, sRetN, sDrop, sAsg, sOwn, sFrz, frz, sPar, sPar3, sNx, sNo, sBk, sCt, sApp, sExt, sSetIx, sAug, sFor, sWhile, m1, m2, mC, mVar, mLook, mAnd, mOr, mNot, mIte, mB, mV, mTru, dTru, mAndV, mOrV, mNotV, mNil, mCons, mTup, mLst, mF, mFS, mItems, mRng, mRng1, mRng2, mRng3, dRng1, dRng2, dRng3, mEnum, mZip, mCut, mNoP, mPt, mRev, mNeg, dNeg, dRev, dCut, mLc, mYes, pName, pTup, pNil, pCons, wipeS, dAdd, dSub, dMul, dDiv, dMod, dMulI, dAddI, dCmp, dIsN, dNotN, isNone, dLenX, dLen, seqOf, dAbs, dMax2, dMin2, dInt, dTuple, dList, dCatL, dRepL, mSt, mStLen, mStCell, sSt, sSt3, drwGet, drwSet, mCh2, mCh3, mCount, dCount, Option.bind_some, Option.map_some, Option.bind_none, Option.map_none, List.getElem?_cons_zero, List.getElem?_cons_succ, List.set_cons_zero, List.set_cons_succ, List.map_cons, List.map_nil, List.cons_append, List.nil_append, List.replicate_succ, List.replicate_zero, List.length_cons, List.length_nil, if_true, if_false, reduceIte, Bool.false_eq_true, Bool.not_true, Bool.not_false, decide_true, decide_false, Function.comp, if_pos m1, Int.natCast_mul]
  have hlen : ((List.range (d + 1)).map fun k => PyData.int ((k * r d c k : Nat) : Int)).length ≤ LB := by rw [List.length_map, List.length_range]; show d + 1 ≤ 1000000; omega
  have sm := dSum_nats (fun k => k * r d c k) (List.range (d + 1))
  rw [S_range (fun k => k * r d c k) (d + 1), show S (fun k => k * r d c k) (d + 1) = T (r d c) (d + 1) from rfl] at sm
  have qq := ev_quotient (u := T (r d c) (d + 1)) (d := d ^ c) (up_MB (dn_MB (by omega))) pp (up_MB (dn_MB (by omega)))
  simp only [G_mean_seen, m_mean_seen, runM, runS, env0, flD, cal, sSeq, sIf, sRet, sRetN, sDrop, sAsg, sOwn, sFrz, frz, sPar, sPar3, sNx, sNo, sBk, sCt, sApp, sExt, sSetIx, sAug, sFor, sWhile, m1, m2, mC, mVar, mLook, mAnd, mOr, mNot, mIte, mB, mV, mTru, dTru, mAndV, mOrV, mNotV, mNil, mCons, mTup, mLst, mF, mFS, mItems, mRng, mRng1, mRng2, mRng3, dRng1, dRng2, dRng3, mEnum, mZip, mCut, mNoP, mPt, mRev, mNeg, dNeg, dRev, dCut, mLc, mYes, pName, pTup, pNil, pCons, wipeS, dAdd, dSub, dMul, dDiv, dMod, dMulI, dAddI, dCmp, dIsN, dNotN, isNone, dLenX, dLen, seqOf, dAbs, dMax2, dMin2, dInt, dTuple, dList, dCatL, dRepL, mSt, mStLen, mStCell, sSt, sSt3, drwGet, drwSet, mCh2, mCh3, mCount, dCount, Option.bind_some, Option.map_some, Option.bind_none, Option.map_none, List.getElem?_cons_zero, List.getElem?_cons_succ, List.set_cons_zero, List.set_cons_succ, List.map_cons, List.map_nil, List.cons_append, List.nil_append, List.replicate_succ, List.replicate_zero, List.length_cons, List.length_nil, if_true, if_false, reduceIte, Bool.false_eq_true, Bool.not_true, Bool.not_false, decide_true, decide_false, Nat.zero_add, Nat.reduceAdd, q1, q2, q3, enumD_range0, hl, if_pos hlen, sm, qq]
/-! ### _law_same -/
theorem ev_same {d : PyData} (h : okShow d = true) : G_L_same [d, d] = some (.bool true) := by
  have h8 : shp 8 d = true := by
    unfold okShow at h
    rw [Bool.and_eq_true, Bool.and_eq_true] at h
    exact h.1.1
  have e1 : dEq d d = some (.bool true) := by
    unfold dEq
    rw [if_pos ⟨h8, h8⟩, SeqAt.eqv_refl_plain d (shp_plain 8 d h8).1]
  have e2 : dRepr [d] = some (.str d.shown) := if_pos h
  have e3 : dEq (.str d.shown) (.str d.shown) = some (.bool true) := by
    unfold dEq
    rw [if_pos ⟨rfl, rfl⟩, SeqAt.eqv_refl_plain (.str d.shown) rfl]
  simp only [G_L_same, m_L_same, runM, runS, env0, flD, cal, sSeq, sIf, sRet, sRetN, sDrop, sAsg, sOwn, sFrz, frz, sPar, sPar3, sNx, sNo, sBk, sCt, sApp, sExt, sSetIx, sAug, sFor, sWhile, m1, m2, mC, mVar, mLook, mAnd, mOr, mNot, mIte, mB, mV, mTru, dTru, mAndV, mOrV, mNotV, mNil, mCons, mTup, mLst, mF, mFS, mItems, mRng, mRng1, mRng2, mRng3, dRng1, dRng2, dRng3, mEnum, mZip, mCut, mNoP, mPt, mRev, mNeg, dNeg, dRev, dCut, mLc, mYes, pName, pTup, pNil, pCons, wipeS, dAdd, dSub, dMul, dDiv, dMod, dMulI, dAddI, dCmp, dIsN, dNotN, isNone, dLenX, dLen, seqOf, dAbs, dMax2, dMin2, dInt, dTuple, dList, dCatL, dRepL, mSt, mStLen, mStCell, sSt, sSt3, drwGet, drwSet, mCh2, mCh3, mCount, dCount, Option.bind_some, Option.map_some, Option.bind_none, Option.map_none, List.getElem?_cons_zero, List.getElem?_cons_succ, List.set_cons_zero, List.set_cons_succ, List.map_cons, List.map_nil, List.cons_append, List.nil_append, List.replicate_succ, List.replicate_zero, List.length_cons, List.length_nil, if_true, if_false, reduceIte, Bool.false_eq_true, Bool.not_true, Bool.not_false, decide_true, decide_false, e1, e2, e3]
theorem dEq_refl {d : PyData} (h8 : shp 8 d = true) : dEq d d = some (.bool true) := by
  unfold dEq
  rw [if_pos ⟨h8, h8⟩, SeqAt.eqv_refl_plain d (shp_plain 8 d h8).1]
theorem dNe_refl {d : PyData} (h8 : shp 8 d = true) : dNe d d = some (.bool false) := by
  unfold dNe
  rw [if_pos ⟨h8, h8⟩, SeqAt.eqv_refl_plain d (shp_plain 8 d h8).1]
  rfl
theorem shp_pr (a b : Nat) : shp 8 (prD a b) = true := rfl
theorem frac_one {W : Nat} (h : 0 < W) : frac W W = prD 1 1 := by
  unfold frac fU fD
  rw [Nat.gcd_self, Nat.div_self h]
/-! ### chances, step by step -/
theorem allF_range {W n : Nat} {g : Nat → PyData} {f : Nat → Nat} (h : ∀ k, k < n → IsF W (g k) (f k)) : AllF W ((List.range n).map g) ((List.range n).map f) := by
  have : ∀ ks : List Nat, (∀ k ∈ ks, k < n) → AllF W (ks.map g) (ks.map f) := fun ks => by
    induction ks with
    | nil => intro _; exact .nil
    | cons k ks ih => intro hk; exact .cons (h k (hk k List.mem_cons_self)) (ih fun x hx => hk x (List.mem_cons_of_mem _ hx))
  exact this _ fun k hk => List.mem_range.mp hk
theorem chD_get {d c k : Nat} (h : k ≤ d) : dIx (.tuple (chD d c)) (.int (k : Int)) = some (frac (r d c k) (d ^ c)) := by
  unfold chD
  rw [ixT_nat (by rw [List.length_map, List.length_range]; omega)]
  simp
section
variable {d c : Nat} (h1 : 1 ≤ d) (hd : d ≤ 9) (hc : c ≤ 10)
include h1 hd hc
theorem sum_one : G_L_added [.list (chD d c)] = some (prD 1 1) := by
  have pw := pow_MB (show d ≤ 40 by omega) (show c ≤ 62 by omega)
  have pp : 0 < d ^ c := Nat.pow_pos h1
  have e := ev_L_added (W := d ^ c) (ds := chD d c) (ns := (List.range (d + 1)).map (r d c)) pp (dn_MB (by omega)) (allF_range fun k hk => .frac pp (dn_MB (by have := r_le (c := c) (show k ≤ d by omega); omega)) (dn_MB (by omega))) (by rw [S_range, S_row]; exact dn_MB (by omega))
  rw [S_range, S_row, frac_one pp] at e
  exact e
theorem mul_frac {k n : Nat} (hk : k ≤ 40) (hn : n ≤ d ^ c) : G_L_quotient [.int ((k * fU n (d ^ c) : Nat) : Int), .int ((fD n (d ^ c) : Nat) : Int)] = some (frac (k * n) (d ^ c)) := by
  have pw := pow_MB (show d ≤ 40 by omega) (show c ≤ 62 by omega)
  have pp : 0 < d ^ c := Nat.pow_pos h1
  have u := fU_le n (d ^ c)
  have v := fD_le n (d ^ c)
  have b : k * fU n (d ^ c) ≤ 40 * 2 ^ 372 := Nat.mul_le_mul hk (by omega)
  rw [ev_L_quotient (up_MB (dn_MB (by omega))) (fD_pos pp) (up_MB (dn_MB (by omega)))]
  congr 1
  exact frac_eq (fD_pos pp) pp (by
    have := fr_cross n (d ^ c)
    grind)
end
theorem seq_nx {a b : MS} {S S1 : SEnv} {w w1 : Drw} (h : a S w = some (.nx, S1, w1)) : sSeq a b S w = b S1 w1 := by
  unfold sSeq
  rw [h]
  rfl
theorem if_no {t : MT} {a : MS} {S : SEnv} {w w1 : Drw} (h : t S w = some (false, w1)) : sIf t a sNx S w = some (.nx, S, w1) := by
  unfold sIf
  rw [h]
  rfl
theorem dLen_tup (xs : List PyData) : dLenX [.tuple xs] = some (.int xs.length) := rfl
theorem chD_len (d c : Nat) : (chD d c).length = d + 1 := by unfold chD; simp
def Ec (d c : Nat) (row due k stay new up down turn seen more : Sl) : SEnv := [.stt, .val (.int d), .val (.int c), row, due, k, stay, new, up, down, turn, seen, more]
section
variable {d c : Nat} (h1 : 1 ≤ d) (hd : d ≤ 9) (hc : c ≤ 10) {w : Drw}
include h1 hd hc
theorem parts_list (due : Sl) : lcGo (pName 5) mYes (mF (cal 2 G_L_quotient) (mCons (m2 dMul (mLook 5) (m2 dIx (m2 dIx (mLook 3) (mLook 5)) (mC (.int 0)))) (mCons (m2 dIx (m2 dIx (mLook 3) (mLook 5)) (mC (.int 1))) mNil)))
    (Ec d c (.val (.tuple (chD d c))) due .no .no .no .no .no .no .no .no) (rngD 0 1 (d + 1)) w = some ((List.range (d + 1)).map (fun k => frac (k * r d c k) (d ^ c)), w) := by
  rw [lc_rng (f := fun z => frac (z.toNat * r d c z.toNat) (d ^ c)) fun k hk => ?_]
  · simp only [Int.zero_add, Int.toNat_natCast]
  · have q := mul_frac h1 hd hc (k := k) (n := r d c k) (by omega) (r_le (by omega))
    have g := chD_get (c := c) (show k ≤ d by omega)
    have m1 : mulOk ((k : Nat) : Int) ((fU (r d c k) (d ^ c) : Nat) : Int) := mulOk_l (by omega) (by omega)
    rw [Int.natCast_mul] at q
    refine ⟨_, rfl, ?_⟩
    simp only [Ec, runM, runS, env0, flD, cal, sSeq, sIf, sRet, sRetN, sDrop, sAsg, sOwn, sFrz, frz, sPar, sPar3, sNx, sNo, sBk, sCt, sApp, sExt, sSetIx, sAug, sFor, sWhile, m1, m2, mC, mVar, mLook, mAnd, mOr, mNot, mIte, mB, mV, mTru, dTru, mAndV, mOrV, mNotV, mNil, mCons, mTup, mLst, mF, mFS, mItems, mRng, mRng1, mRng2, mRng3, dRng1, dRng2, dRng3, mEnum, mZip, mCut, mNoP, mPt, mRev, mNeg, dNeg, dRev, dCut, mLc, mYes, pName, pTup, pNil, pCons, wipeS, dAdd, dSub, dMul, dDiv, dMod, dMulI, dAddI, dCmp, dIsN, dNotN, isNone, dLenX, dLen, seqOf, dAbs, dMax2, dMin2, dInt, dTuple, dList, dCatL, dRepL, mSt, mStLen, mStCell, sSt, sSt3, drwGet, drwSet, mCh2, mCh3, mCount, dCount, Option.bind_some, Option.map_some, Option.bind_none, Option.map_none, List.getElem?_cons_zero, List.getElem?_cons_succ, List.set_cons_zero, List.set_cons_succ, List.map_cons, List.map_nil, List.cons_append, List.nil_append, List.replicate_succ, List.replicate_zero, List.length_cons, List.length_nil, if_true, if_false, reduceIte, Bool.false_eq_true, Bool.not_true, Bool.not_false, decide_true, decide_false, Int.zero_add, Int.toNat_natCast, g, frac, prD, ix_pr0, ix_pr1, if_pos m1, Nat.zero_add, Nat.reduceAdd] at q ⊢
    rw [q]
    rfl
theorem parts_sum : G_L_added [.list ((List.range (d + 1)).map (fun k => frac (k * r d c k) (d ^ c)))] = some (frac (T (r d c) (d + 1)) (d ^ c)) := by
  have pw := pow_MB (show d ≤ 40 by omega) (show c ≤ 62 by omega)
  have pp : 0 < d ^ c := Nat.pow_pos h1
  have e := ev_L_added (W := d ^ c) (ds := (List.range (d + 1)).map (fun k => frac (k * r d c k) (d ^ c))) (ns := (List.range (d + 1)).map (fun k => k * r d c k)) pp (dn_MB (by omega)) (allF_range fun k hk => .frac pp (dn_MB (by
    have a := r_le (c := c) (show k ≤ d by omega)
    have b : k * r d c k ≤ 40 * 2 ^ 372 := Nat.mul_le_mul (by omega) (by omega)
    omega)) (dn_MB (by omega))) (by
    rw [S_range]
    have := T_MB (show d ≤ 40 by omega) (show c ≤ 62 by omega)
    exact dn_MB (by show T (r d c) (d + 1) ≤ _; omega))
  rw [S_range] at e
  exact e
/-! the next coin -/
def mDueB : MS := sSeq (sPar 6 7 (mCons (mF (cal 2 G_L_quotient) (mCons (m2 dMul (m2 dIx (m2 dIx (mLook 3) (mLook 5)) (mC (.int 0))) (mLook 5)) (mCons (m2 dMul (m2 dIx (m2 dIx (mLook 3) (mLook 5)) (mC (.int 1))) (mLook 1)) mNil))) (mCons (mIte (mTru (mLook 5)) (mF (cal 2 G_L_quotient) (mCons (m2 dMul (m2 dIx (m2 dIx (mLook 3) (m2 dSub (mLook 5) (mC (.int 1)))) (mC (.int 0))) (m2 dAdd (m2 dSub (mLook 1) (mLook 5)) (mC (.int 1)))) (mCons (m2 dMul (m2 dIx (m2 dIx (mLook 3) (m2 dSub (mLook 5) (mC (.int 1)))) (mC (.int 1))) (mLook 1)) mNil))) (mTup (mCons (mC (.int 0)) (mCons (mC (.int 1)) mNil)))) mNil)))
    (sApp 4 (mF (cal 1 G_L_added) (mCons (mLst (mCons (mVar 6) (mCons (mVar 7) mNil))) mNil)))
theorem due_one {k : Nat} (hk : k ≤ d) {x y : PyData} (hx : IsF (d ^ (c + 1)) x (r d c k * k)) (hy : IsF (d ^ (c + 1)) y (if k = 0 then 0 else r d c (k - 1) * (d - k + 1))) : G_L_added [.list [x, y]] = some (frac (r d (c + 1) k) (d ^ (c + 1))) := by
  have pw := pow_MB (show d ≤ 40 by omega) (show c + 1 ≤ 62 by omega)
  have pp : 0 < d ^ (c + 1) := Nat.pow_pos h1
  have a := r_le (c := c + 1) hk
  have e := ev_L_added (W := d ^ (c + 1)) (ds := [x, y]) (ns := [r d c k * k, if k = 0 then 0 else r d c (k - 1) * (d - k + 1)]) pp (dn_MB (by omega)) (.cons hx (.cons hy .nil)) (by
    simp only [List.sum_cons, List.sum_nil, Nat.add_zero]
    exact dn_MB (by show r d (c + 1) k ≤ _; omega))
  simp only [List.sum_cons, List.sum_nil, Nat.add_zero] at e
  exact e
theorem frac_W {k n m : Nat} (hm : m ≤ 40) (hk : k ≤ d ^ c) (hn : n = k * m) : G_L_quotient [.int ((fU k (d ^ c) : Nat) * (m : Nat) : Int), .int ((fD k (d ^ c) : Nat) * (d : Nat) : Int)] = some (frac n (d ^ (c + 1))) ∧ IsF (d ^ (c + 1)) (frac n (d ^ (c + 1))) n := by
  have pw := pow_MB (show d ≤ 40 by omega) (show c + 1 ≤ 62 by omega)
  have pw0 := pow_MB (show d ≤ 40 by omega) (show c ≤ 62 by omega)
  have pp : 0 < d ^ (c + 1) := Nat.pow_pos h1
  have pp0 : 0 < d ^ c := Nat.pow_pos h1
  have u := fU_le k (d ^ c)
  have v := fD_le k (d ^ c)
  have v0 := fD_pos (u := k) pp0
  have b1 : fU k (d ^ c) * m ≤ 2 ^ 372 * 40 := Nat.mul_le_mul (by omega) hm
  have b2 : fD k (d ^ c) * d ≤ 2 ^ 372 * 40 := Nat.mul_le_mul (by omega) (by omega)
  have b3 : n ≤ 2 ^ 372 * 40 := by rw [hn]; exact Nat.mul_le_mul (by omega) hm
  have q := ev_L_quotient (u := fU k (d ^ c) * m) (d := fD k (d ^ c) * d) (up_MB (dn_MB (by omega))) (Nat.mul_pos v0 h1) (up_MB (dn_MB (by omega)))
  rw [Int.natCast_mul, Int.natCast_mul] at q
  refine ⟨?_, .frac pp (dn_MB (by omega)) (dn_MB (by omega))⟩
  rw [q]
  congr 1
  refine frac_eq (Nat.mul_pos v0 h1) pp ?_
  have := fr_cross k (d ^ c)
  rw [hn, Nat.pow_succ]
  grind
theorem due_step {k : Nat} (hk : k ≤ d) {xs : List PyData} (hx : xs.length ≤ 100) {s6 s7 a b e f g : Sl} :
    mDueB (Ec d c (.val (.tuple (chD d c))) (.own (.list xs)) (.val (.int (k : Nat))) s6 s7 a b e f g) w = some (.nx, Ec d c (.val (.tuple (chD d c))) (.own (.list (xs ++ [frac (r d (c + 1) k) (d ^ (c + 1))]))) (.val (.int (k : Nat))) (.val (frac (r d c k * k) (d ^ (c + 1))))
      (.val (if k = 0 then prD 0 1 else frac (r d c (k - 1) * (d - k + 1)) (d ^ (c + 1)))) a b e f g, w) := by
  have pp : 0 < d ^ (c + 1) := Nat.pow_pos h1
  have g1 := chD_get (c := c) hk
  obtain ⟨q1, i1⟩ := frac_W h1 hd hc (k := r d c k) (m := k) (by omega) (r_le hk) rfl
  have m1 : mulOk ((fU (r d c k) (d ^ c) : Nat) : Int) ((k : Nat) : Int) := mulOk_r (by omega) (by omega)
  have m2' : mulOk ((fD (r d c k) (d ^ c) : Nat) : Int) ((d : Nat) : Int) := mulOk_r (by omega) (by omega)
  have l2 : (2 : Nat) ≤ LB := by decide
  have l3 : xs.length + 1 ≤ LB := by show _ ≤ 1000000; omega
  by_cases h0 : k = 0
  · subst h0
    have hb : (((0 : Nat) : Int) != 0) = false := by decide
    have o := due_one h1 hd hc hk i1 (y := prD 0 1) ⟨0, 1, rfl, by decide, by simp, Nat.zero_le _, by unfold MB; exact Nat.one_le_two_pow⟩
    simp only [frac] at q1 o g1 ⊢
    simp only [mDueB, Ec, runM, runS, env0, flD, cal, sSeq, sIf, sRet, sRetN, sDrop, sAsg, sOwn, sFrz, frz, sPar, sPar3, sNx, sNo, sBk, sCt, sApp, sExt, sSetIx, sAug, sFor, sWhile, m1, m2, mC, mVar, mLook, mAnd, mOr, mNot, mIte, mB, mV, mTru, dTru, mAndV, mOrV, mNotV, mNil, mCons, mTup, mLst, mF, mFS, mItems, mRng, mRng1, mRng2, mRng3, dRng1, dRng2, dRng3, mEnum, mZip, mCut, mNoP, mPt, mRev, mNeg, dNeg, dRev, dCut, mLc, mYes, pName, pTup, pNil, pCons, wipeS, dAdd, dSub, dMul, dDiv, dMod, dMulI, dAddI, dCmp, dIsN, dNotN, isNone, dLenX, dLen, seqOf, dAbs, dMax2, dMin2, dInt, dTuple, dList, dCatL, dRepL, mSt, mStLen, mStCell, sSt, sSt3, drwGet, drwSet, mCh2, mCh3, mCount, dCount, Option.bind_some, Option.map_some, Option.bind_none, Option.map_none, List.getElem?_cons_zero, List.getElem?_cons_succ, List.set_cons_zero, List.set_cons_succ, List.map_cons, List.map_nil, List.cons_append, List.nil_append, List.replicate_succ, List.replicate_zero, List.length_cons, List.length_nil, if_true, if_false, reduceIte, Bool.false_eq_true, Bool.not_true, Bool.not_false, decide_true, decide_false, g1, prD, ix_pr0, ix_pr1, if_pos m1, if_pos m2', Nat.zero_add, Nat.reduceAdd, hb, if_pos l2, if_pos l3] at q1 o ⊢
    simp only [q1, runM, runS, env0, flD, cal, sSeq, sIf, sRet, sRetN, sDrop, sAsg, sOwn, sFrz, frz, sPar, sPar3, sNx, sNo, sBk, sCt, sApp, sExt, sSetIx, sAug, sFor, sWhile, m1, m2, mC, mVar, mLook, mAnd, mOr, mNot, mIte, mB, mV, mTru, dTru, mAndV, mOrV, mNotV, mNil, mCons, mTup, mLst, mF, mFS, mItems, mRng, mRng1, mRng2, mRng3, dRng1, dRng2, dRng3, mEnum, mZip, mCut, mNoP, mPt, mRev, mNeg, dNeg, dRev, dCut, mLc, mYes, pName, pTup, pNil, pCons, wipeS, dAdd, dSub, dMul, dDiv, dMod, dMulI, dAddI, dCmp, dIsN, dNotN, isNone, dLenX, dLen, seqOf, dAbs, dMax2, dMin2, dInt, dTuple, dList, dCatL, dRepL, mSt, mStLen, mStCell, sSt, sSt3, drwGet, drwSet, mCh2, mCh3, mCount, dCount, Option.bind_some, Option.map_some, Option.bind_none, Option.map_none, List.getElem?_cons_zero, List.getElem?_cons_succ, List.set_cons_zero, List.set_cons_succ, List.map_cons, List.map_nil, List.cons_append, List.nil_append, List.replicate_succ, List.replicate_zero, List.length_cons, List.length_nil, if_true, if_false, reduceIte, Bool.false_eq_true, Bool.not_true, Bool.not_false, decide_true, decide_false, if_pos l2, Nat.zero_add, Nat.reduceAdd]
    have o' : G_L_added [PyData.list [PyData.tuple [PyData.int ↑(fU (r d c 0 * 0) (d ^ (c + 1))), PyData.int ↑(fD (r d c 0 * 0) (d ^ (c + 1)))], PyData.tuple [PyData.int 0, PyData.int 1]]] = _ := o
    simp only [o', runM, runS, env0, flD, cal, sSeq, sIf, sRet, sRetN, sDrop, sAsg, sOwn, sFrz, frz, sPar, sPar3, sNx, sNo, sBk, sCt, sApp, sExt, sSetIx, sAug, sFor, sWhile, m1, m2, mC, mVar, mLook, mAnd, mOr, mNot, mIte, mB, mV, mTru, dTru, mAndV, mOrV, mNotV, mNil, mCons, mTup, mLst, mF, mFS, mItems, mRng, mRng1, mRng2, mRng3, dRng1, dRng2, dRng3, mEnum, mZip, mCut, mNoP, mPt, mRev, mNeg, dNeg, dRev, dCut, mLc, mYes, pName, pTup, pNil, pCons, wipeS, dAdd, dSub, dMul, dDiv, dMod, dMulI, dAddI, dCmp, dIsN, dNotN, isNone, dLenX, dLen, seqOf, dAbs, dMax2, dMin2, dInt, dTuple, dList, dCatL, dRepL, mSt, mStLen, mStCell, sSt, sSt3, drwGet, drwSet, mCh2, mCh3, mCount, dCount, Option.bind_some, Option.map_some, Option.bind_none, Option.map_none, List.getElem?_cons_zero, List.getElem?_cons_succ, List.set_cons_zero, List.set_cons_succ, List.map_cons, List.map_nil, List.cons_append, List.nil_append, List.replicate_succ, List.replicate_zero, List.length_cons, List.length_nil, if_true, if_false, reduceIte, Bool.false_eq_true, Bool.not_true, Bool.not_false, decide_true, decide_false, if_pos l3]
    rfl
  · have hb : (((k : Nat) : Int) != 0) = true := by simp; omega
    have e1 : ((k : Nat) : Int) - 1 = ((k - 1 : Nat) : Int) := by omega
    have e2 : (d : Int) - ((k : Nat) : Int) + 1 = ((d - k + 1 : Nat) : Int) := by omega
    have g2 := chD_get (c := c) (show k - 1 ≤ d by omega)
    obtain ⟨q2, i2⟩ := frac_W h1 hd hc (k := r d c (k - 1)) (m := d - k + 1) (by omega) (r_le (by omega)) rfl
    have m3 : mulOk ((fU (r d c (k - 1)) (d ^ c) : Nat) : Int) ((d - k + 1 : Nat) : Int) := mulOk_r (by omega) (by omega)
    have m4 : mulOk ((fD (r d c (k - 1)) (d ^ c) : Nat) : Int) ((d : Nat) : Int) := mulOk_r (by omega) (by omega)
    have o := due_one h1 hd hc hk i1 (y := frac (r d c (k - 1) * (d - k + 1)) (d ^ (c + 1))) (by rw [if_neg h0]; exact i2)
    simp only [frac, if_neg h0] at q1 q2 o g1 g2 ⊢
    simp only [mDueB, Ec, runM, runS, env0, flD, cal, sSeq, sIf, sRet, sRetN, sDrop, sAsg, sOwn, sFrz, frz, sPar, sPar3, sNx, sNo, sBk, sCt, sApp, sExt, sSetIx, sAug, sFor, sWhile, m1, m2, mC, mVar, mLook, mAnd, mOr, mNot, mIte, mB, mV, mTru, dTru, mAndV, mOrV, mNotV, mNil, mCons, mTup, mLst, mF, mFS, mItems, mRng, mRng1, mRng2, mRng3, dRng1, dRng2, dRng3, mEnum, mZip, mCut, mNoP, mPt, mRev, mNeg, dNeg, dRev, dCut, mLc, mYes, pName, pTup, pNil, pCons, wipeS, dAdd, dSub, dMul, dDiv, dMod, dMulI, dAddI, dCmp, dIsN, dNotN, isNone, dLenX, dLen, seqOf, dAbs, dMax2, dMin2, dInt, dTuple, dList, dCatL, dRepL, mSt, mStLen, mStCell, sSt, sSt3, drwGet, drwSet, mCh2, mCh3, mCount, dCount, Option.bind_some, Option.map_some, Option.bind_none, Option.map_none, List.getElem?_cons_zero, List.getElem?_cons_succ, List.set_cons_zero, List.set_cons_succ, List.map_cons, List.map_nil, List.cons_append, List.nil_append, List.replicate_succ, List.replicate_zero, List.length_cons, List.length_nil, if_true, if_false, reduceIte, Bool.false_eq_true, Bool.not_true, Bool.not_false, decide_true, decide_false, g1, g2, prD, ix_pr0, ix_pr1, if_pos m1, if_pos m2', if_pos m3, if_pos m4, Nat.zero_add, Nat.reduceAdd, hb, e1, e2, if_pos l2, if_pos l3, q1, q2] at q1 q2 o ⊢
    simp only [q1, q2, o, runM, runS, env0, flD, cal, sSeq, sIf, sRet, sRetN, sDrop, sAsg, sOwn, sFrz, frz, sPar, sPar3, sNx, sNo, sBk, sCt, sApp, sExt, sSetIx, sAug, sFor, sWhile, m1, m2, mC, mVar, mLook, mAnd, mOr, mNot, mIte, mB, mV, mTru, dTru, mAndV, mOrV, mNotV, mNil, mCons, mTup, mLst, mF, mFS, mItems, mRng, mRng1, mRng2, mRng3, dRng1, dRng2, dRng3, mEnum, mZip, mCut, mNoP, mPt, mRev, mNeg, dNeg, dRev, dCut, mLc, mYes, pName, pTup, pNil, pCons, wipeS, dAdd, dSub, dMul, dDiv, dMod, dMulI, dAddI, dCmp, dIsN, dNotN, isNone, dLenX, dLen, seqOf, dAbs, dMax2, dMin2, dInt, dTuple, dList, dCatL, dRepL, mSt, mStLen, mStCell, sSt, sSt3, drwGet, drwSet, mCh2, mCh3, mCount, dCount, Option.bind_some, Option.map_some, Option.bind_none, Option.map_none, List.getElem?_cons_zero, List.getElem?_cons_succ, List.set_cons_zero, List.set_cons_succ, List.map_cons, List.map_nil, List.cons_append, List.nil_append, List.replicate_succ, List.replicate_zero, List.length_cons, List.length_nil, if_true, if_false, reduceIte, Bool.false_eq_true, Bool.not_true, Bool.not_false, decide_true, decide_false, if_pos l2, if_pos l3, Nat.zero_add, Nat.reduceAdd]
end
section
variable {d c : Nat} (h1 : 1 ≤ d) (hd : d ≤ 9) (hc : c ≤ 10) {w : Drw}
include h1 hd hc
theorem due_loop : ∀ (n k : Nat) (xs : List PyData) (s5 s6 s7 : Sl), k + n = d + 1 → xs.length = k → ∃ t5 t6 t7, forGo (pName 5) mDueB (rngD (k : Nat) 1 n) (Ec d c (.val (.tuple (chD d c))) (.own (.list xs)) s5 s6 s7 .no .no .no .no .no) w =
    some (.nx, Ec d c (.val (.tuple (chD d c))) (.own (.list (xs ++ (List.range n).map fun j => frac (r d (c + 1) (k + j)) (d ^ (c + 1))))) t5 t6 t7 .no .no .no .no .no, w)
  | 0, k, xs, s5, s6, s7, _, _ => ⟨s5, s6, s7, by simp [rngD_zero, forGo]⟩
  | n + 1, k, xs, s5, s6, s7, hk, hx => by
    obtain ⟨t5, t6, t7, e⟩ := due_loop n (k + 1) (xs ++ [frac (r d (c + 1) k) (d ^ (c + 1))]) (.val (.int (k : Nat))) (.val (frac (r d c k * k) (d ^ (c + 1)))) (.val (if k = 0 then prD 0 1 else frac (r d c (k - 1) * (d - k + 1)) (d ^ (c + 1)))) (by omega) (by simp [hx])
    refine ⟨t5, t6, t7, ?_⟩
    rw [rngD_succ, forGo_cons]
    show ((mDueB (Ec d c (.val (.tuple (chD d c))) (.own (.list xs)) (.val (.int (k : Nat))) s6 s7 .no .no .no .no .no) w).bind _) = _
    rw [due_step h1 hd hc (show k ≤ d by omega) (by omega), Option.bind_some]
    show forGo (pName 5) mDueB (rngD ((k : Nat) + 1) 1 n) _ w = _
    have e1 : ((k : Nat) : Int) + 1 = ((k + 1 : Nat) : Int) := by omega
    have e3 : xs ++ [frac (r d (c + 1) k) (d ^ (c + 1))] ++ (List.range n).map (fun j => frac (r d (c + 1) (k + 1 + j)) (d ^ (c + 1))) = xs ++ (List.range (n + 1)).map fun j => frac (r d (c + 1) (k + j)) (d ^ (c + 1)) := by
      rw [List.range_succ_eq_map, List.map_cons, List.map_map, List.append_assoc, List.singleton_append]
      congr 2
      refine List.map_congr_left fun j _ => ?_
      simp only [Function.comp]
      rw [show k + 1 + j = k + j.succ from by omega]
    rw [e1, e, e3]
end
theorem okShow_ch {d c : Nat} (hd : d ≤ 40) (hc : c ≤ 62) : okShow (.tuple (chD d c)) = true := by
  have pw := pow_MB hd hc
  have sm : ∀ n : Nat, n ≤ 2 ^ 372 → ((n : Nat) : Int).natAbs.log2 < 1920 := fun n hn => by
    by_cases z : n = 0
    · subst z; decide
    · have : n < 2 ^ 1920 := Nat.lt_of_le_of_lt hn (Nat.pow_lt_pow_right (by decide) (by decide))
      exact (Nat.log2_lt z).mpr this
  have all : ∀ ks : List Nat, (∀ k ∈ ks, k ≤ d) → (ks.map fun k => frac (r d c k) (d ^ c)).all (shp 7) = true ∧ PyData.showableAll (ks.map fun k => frac (r d c k) (d ^ c)) = true ∧ wtA (ks.map fun k => frac (r d c k) (d ^ c)) = ks.length * 3851 := fun ks => by
    induction ks with
    | nil => intro _; exact ⟨rfl, rfl, rfl⟩
    | cons k ks ih =>
      intro h
      obtain ⟨a, b, e⟩ := ih fun x hx => h x (List.mem_cons_of_mem _ hx)
      have hk := h k List.mem_cons_self
      have u := Nat.le_trans (fU_le (r d c k) (d ^ c)) (Nat.le_trans (r_le hk) pw)
      have v := Nat.le_trans (fD_le (r d c k) (d ^ c)) pw
      refine ⟨?_, ?_, ?_⟩
      · rw [List.map_cons, List.all_cons, a]; rfl
      · have f1 : PyData.showable (frac (r d c k) (d ^ c)) = true := by simp only [frac, prD, PyData.showable, PyData.showableAll, sm _ u, sm _ v, decide_true, Bool.and_self]
        rw [List.map_cons]
        simp only [PyData.showableAll, b, f1, Bool.and_self]
      · have f2 : wt (frac (r d c k) (d ^ c)) = 3849 := by simp only [frac, prD, wt, wtA]
        rw [List.map_cons]
        simp only [wtA, e, f2, List.length_cons]
        omega
  obtain ⟨a, b, e⟩ := all (List.range (d + 1)) fun k hk => by have := List.mem_range.mp hk; omega
  have a' : (chD d c).all (shp 7) = true := a
  have b' : PyData.showableAll (chD d c) = true := b
  have e' : wtA (chD d c) = (d + 1) * 3851 := by have := e; rw [List.length_range] at this; exact this
  unfold okShow
  simp only [shp, a', PyData.showable, b', wt, e', Bool.true_and, decide_eq_true_eq]
  omega
/-! the powers -/
theorem pow_loop {x y : Nat} {S : Sl → Sl → Sl → SEnv} {b : MS} {w : Drw} {i : Nat} (hp : ∀ a e t v, pName i v (S a e t) = some (S a e (.val v))) (hx : x ≤ 40) (hy : y ≤ 40)
    (hb : ∀ (a e : Nat) t, b (S (.val (.int a)) (.val (.int e)) t) w = some (.nx, S (.val (.int ((a * x : Nat) : Int))) (.val (.int ((e * y : Nat) : Int))) t, w)) :
    ∀ (n : Nat) (lo : Int) (a e : Nat) (t : Sl), ∃ t', forGo (pName i) b (rngD lo 1 n) (S (.val (.int a)) (.val (.int e)) t) w = some (.nx, S (.val (.int ((a * x ^ n : Nat) : Int))) (.val (.int ((e * y ^ n : Nat) : Int))) t', w)
  | 0, lo, a, e, t => ⟨t, by simp [rngD_zero, forGo]⟩
  | n + 1, lo, a, e, t => by
    obtain ⟨t', ih⟩ := pow_loop hp hx hy hb n (lo + 1) (a * x) (e * y) (.val (.int lo))
    refine ⟨t', ?_⟩
    rw [rngD_succ, forGo_cons, hp, Option.bind_some, hb, Option.bind_some]
    show forGo _ _ _ _ _ = _
    rw [ih, Nat.pow_succ, Nat.pow_succ, Nat.mul_assoc, Nat.mul_assoc, Nat.mul_comm x (x ^ n), Nat.mul_comm y (y ^ n)]
theorem ev_chance_new {d s n : Nat} (h1 : 1 ≤ d) (hd : d ≤ 40) (hs : s ≤ d) (hn : n ≤ 60) : G_chance_new [.int d, .int s, .int n] = some (frac (d ^ n - s ^ n) (d ^ n)) := by
  have q1 := ev_check_dies (i := d) (by omega) (by omega) (.str "dies")
  have q2 := ev_check_seen (i := s) (by omega) (by omega)
  have q3 := ev_check_more (d := d) (s := s) (m := n) (by omega) (by omega) (by omega)
  have sm := smallI_of (i := (n : Int)) (by omega) (by omega)
  have tn : ((n : Int)).toNat = n := by omega
  obtain ⟨t', lp⟩ := pow_loop (x := s) (y := d) (S := fun a e t => [.val (.int d), .val (.int s), .val (.int n), a, e, t]) (b := sSeq (sAug dMulI 3 (mLook 1)) (sAug dMulI 4 (mLook 0))) (w := w0) (i := 5) (fun a e t v => rfl) (by omega) hd
    (fun a e t => by
      have m1 : mulOk ((a : Nat) : Int) ((s : Nat) : Int) := mulOk_r (by omega) (by omega)
      have m2' : mulOk ((e : Nat) : Int) ((d : Nat) : Int) := mulOk_r (by omega) (by omega)
      simp only [runM, runS, env0, flD, cal, sSeq, sIf, sRet, sRetN, sDrop, sAsg, sOwn, sFrz, frz, sPar, sPar3, sNx, sNo, sBk, sCt, sApp, sExt, sSetIx, sAug, sFor, sWhile, m1, m2, mC, mVar, mLook, mAnd, mOr, mNot, mIte, mB, mV, mTru, dTru, mAndV, mOrV, mNotV, mNil, mCons, mTup, mLst, mF, mFS, mItems, mRng, mRng1, mRng2, mRng3, dRng1, dRng2, dRng3, mEnum, mZip, mCut, mNoP, mPt, mRev, mNeg, dNeg, dRev, dCut, mLc, mYes, pName, pTup, pNil, pCons, wipeS, dAdd, dSub, dMul, dDiv, dMod, dMulI, dAddI, dCmp, dIsN, dNotN, isNone, dLenX, dLen, seqOf, dAbs, dMax2, dMin2, dInt, dTuple, dList, dCatL, dRepL, mSt, mStLen, mStCell, sSt, sSt3, drwGet, drwSet, mCh2, mCh3, mCount, dCount, Option.bind_some, Option.map_some, Option.bind_none, Option.map_none, List.getElem?_cons_zero, List.getElem?_cons_succ, List.set_cons_zero, List.set_cons_succ, List.map_cons, List.map_nil, List.cons_append, List.nil_append, List.replicate_succ, List.replicate_zero, List.length_cons, List.length_nil, if_true, if_false, reduceIte, Bool.false_eq_true, Bool.not_true, Bool.not_false, decide_true, decide_false, if_pos m1, if_pos m2', Int.natCast_mul]) n 0 1 1 .no
  have pp : 0 < d ^ n := Nat.pow_pos h1
  have pw := pow_MB hd (show n ≤ 62 by omega)
  have le : s ^ n ≤ d ^ n := Nat.pow_le_pow_left hs n
  have q := ev_quotient (u := d ^ n - s ^ n) (d := d ^ n) (up_MB (dn_MB (by omega))) pp (up_MB (dn_MB (by omega)))
  have e : ((1 * d ^ n : Nat) : Int) - ((1 * s ^ n : Nat) : Int) = ((d ^ n - s ^ n : Nat) : Int) := by omega
  have l2 : (2 : Nat) ≤ LB := by decide
  rw [show ((1 : Nat) : Int) = 1 from rfl] at lp
  simp only [G_chance_new, m_chance_new, runM, runS, env0, flD, cal, sSeq, sIf, sRet, sRetN, sDrop, sAsg, sOwn, sFrz, frz, sPar, sPar3, sNx, sNo, sBk, sCt, sApp, sExt, sSetIx, sAug, sFor, sWhile, m1, m2, mC, mVar, mLook, mAnd, mOr, mNot, mIte, mB, mV, mTru, dTru, mAndV, mOrV, mNotV, mNil, mCons, mTup, mLst, mF, mFS, mItems, mRng, mRng1, mRng2, mRng3, dRng1, dRng2, dRng3, mEnum, mZip, mCut, mNoP, mPt, mRev, mNeg, dNeg, dRev, dCut, mLc, mYes, pName, pTup, pNil, pCons, wipeS, dAdd, dSub, dMul, dDiv, dMod, dMulI, dAddI, dCmp, dIsN, dNotN, isNone, dLenX, dLen, seqOf, dAbs, dMax2, dMin2, dInt, dTuple, dList, dCatL, dRepL, mSt, mStLen, mStCell, sSt, sSt3, drwGet, drwSet, mCh2, mCh3, mCount, dCount, Option.bind_some, Option.map_some, Option.bind_none, Option.map_none, List.getElem?_cons_zero, List.getElem?_cons_succ, List.set_cons_zero, List.set_cons_succ, List.map_cons, List.map_nil, List.cons_append, List.nil_append, List.replicate_succ, List.replicate_zero, List.length_cons, List.length_nil, if_true, if_false, reduceIte, Bool.false_eq_true, Bool.not_true, Bool.not_false, decide_true, decide_false, Nat.zero_add, Nat.reduceAdd, q1, q2, q3, if_pos l2, if_pos sm, tn, Nat.one_mul] at lp ⊢
  simp only [lp, runM, runS, env0, flD, cal, sSeq, sIf, sRet, sRetN, sDrop, sAsg, sOwn, sFrz, frz, sPar, sPar3, sNx, sNo, sBk, sCt, sApp, sExt, sSetIx, sAug, sFor, sWhile, m1, m2, mC, mVar, mLook, mAnd, mOr, mNot, mIte, mB, mV, mTru, dTru, mAndV, mOrV, mNotV, mNil, mCons, mTup, mLst, mF, mFS, mItems, mRng, mRng1, mRng2, mRng3, dRng1, dRng2, dRng3, mEnum, mZip, mCut, mNoP, mPt, mRev, mNeg, dNeg, dRev, dCut, mLc, mYes, pName, pTup, pNil, pCons, wipeS, dAdd, dSub, dMul, dDiv, dMod, dMulI, dAddI, dCmp, dIsN, dNotN, isNone, dLenX, dLen, seqOf, dAbs, dMax2, dMin2, dInt, dTuple, dList, dCatL, dRepL, mSt, mStLen, mStCell, sSt, sSt3, drwGet, drwSet, mCh2, mCh3, mCount, dCount, Option.bind_some, Option.map_some, Option.bind_none, Option.map_none, List.getElem?_cons_zero, List.getElem?_cons_succ, List.set_cons_zero, List.set_cons_succ, List.map_cons, List.map_nil, List.cons_append, List.nil_append, List.replicate_succ, List.replicate_zero, List.length_cons, List.length_nil, if_true, if_false, reduceIte, Bool.false_eq_true, Bool.not_true, Bool.not_false, decide_true, decide_false]
  rw [Nat.one_mul, Nat.one_mul] at e
  simp only [e, q, runM, runS, env0, flD, cal, sSeq, sIf, sRet, sRetN, sDrop, sAsg, sOwn, sFrz, frz, sPar, sPar3, sNx, sNo, sBk, sCt, sApp, sExt, sSetIx, sAug, sFor, sWhile, m1, m2, mC, mVar, mLook, mAnd, mOr, mNot, mIte, mB, mV, mTru, dTru, mAndV, mOrV, mNotV, mNil, mCons, mTup, mLst, mF, mFS, mItems, mRng, mRng1, mRng2, mRng3, dRng1, dRng2, dRng3, mEnum, mZip, mCut, mNoP, mPt, mRev, mNeg, dNeg, dRev, dCut, mLc, mYes, pName, pTup, pNil, pCons, wipeS, dAdd, dSub, dMul, dDiv, dMod, dMulI, dAddI, dCmp, dIsN, dNotN, isNone, dLenX, dLen, seqOf, dAbs, dMax2, dMin2, dInt, dTuple, dList, dCatL, dRepL, mSt, mStLen, mStCell, sSt, sSt3, drwGet, drwSet, mCh2, mCh3, mCount, dCount, Option.bind_some, Option.map_some, Option.bind_none, Option.map_none, List.getElem?_cons_zero, List.getElem?_cons_succ, List.set_cons_zero, List.set_cons_succ, List.map_cons, List.map_nil, List.cons_append, List.nil_append, List.replicate_succ, List.replicate_zero, List.length_cons, List.length_nil, if_true, if_false, reduceIte, Bool.false_eq_true, Bool.not_true, Bool.not_false, decide_true, decide_false, Nat.one_mul]
/-! ### the draws -/
theorem ev_draw {w : Drw} {n : Nat} (h : w.In n) (hn : n < 2 ^ 60) (many : Nat) (h1 : 0 < many) (h2 : many ≤ 1000) : ∃ (r : Nat) (w' : Drw), G_L_draw [.int (many : Nat)] w = some (.int (r : Nat), w') ∧ r < many ∧ w'.In (n + 1) := by
  obtain ⟨r, w', e, r0, r1, hw⟩ := draw_ok h (by omega) (many := many) (by omega) (by omega)
  obtain ⟨k, rfl⟩ := Int.eq_ofNat_of_zero_le r0
  exact ⟨k, w', e, by omega, hw⟩
theorem ev_chances_hold {w : Drw} {n : Nat} (h : w.In n) (hn : n + 10 < 2 ^ 60) : ∃ w', G_L_chances_hold [] w = some (.bool true, w') ∧ w'.In (n + 4) := by
  obtain ⟨d0, w1, e1, r1, i1⟩ := ev_draw h (by omega) 9 (by decide) (by decide)
  obtain ⟨c, w2, e2, r2, i2⟩ := ev_draw i1 (by omega) 11 (by decide) (by decide)
  obtain ⟨d, hd⟩ : ∃ d, d = 1 + d0 := ⟨_, rfl⟩
  have h1 : 1 ≤ d := by omega
  have hd9 : d ≤ 9 := by omega
  have hc : c ≤ 10 := by omega
  obtain ⟨s, w3, e3, r3, i3⟩ := ev_draw i2 (by omega) (d + 1) (by omega) (by omega)
  obtain ⟨m, w4, e4, r4, i4⟩ := ev_draw i3 (by omega) 8 (by decide) (by decide)
  refine ⟨w4, ?_, i4⟩
  have cd : (1 : Int) + (d0 : Nat) = ((d : Nat) : Int) := by omega
  have c9 : ((9 : Nat) : Int) = 9 := rfl
  have c11 : ((11 : Nat) : Int) = 11 := rfl
  have c8 : ((8 : Nat) : Int) = 8 := rfl
  have cd1 : ((d + 1 : Nat) : Int) = (d : Int) + 1 := by omega
  rw [c9] at e1
  rw [c11] at e2
  rw [cd1] at e3
  rw [c8] at e4
  have ch := ev_chances_seen (c := c) h1 (show d ≤ 40 by omega) (by omega)
  have ch2 := ev_chances_seen (c := c + 1) h1 (show d ≤ 40 by omega) (by omega)
  have cc1 : ((c + 1 : Nat) : Int) = (c : Int) + 1 := by omega
  rw [cc1] at ch2
  have mn := ev_mean_seen (c := c) h1 (show d ≤ 40 by omega) (by omega)
  have so := sum_one h1 hd9 hc
  have ps := parts_sum h1 hd9 hc
  have pw := pow_MB (show d ≤ 40 by omega) (show c ≤ 62 by omega)
  have pp : 0 < d ^ c := Nat.pow_pos h1
  have sm1 := smallI_of (i := ((d : Int) + 1)) (by omega) (by omega)
  have tn1 : ((d : Int) + 1).toNat = d + 1 := by omega
  have sm2 := smallI_of (i := (c : Int)) (by omega) (by omega)
  have tn2 : ((c : Int)).toNat = c := by omega
  have sm3 := smallI_of (i := (m : Int)) (by omega) (by omega)
  have tn3 : ((m : Int)).toNat = m := by omega
  have l2 : (2 : Nat) ≤ LB := by decide
  have l0 : (0 : Nat) ≤ LB := by decide
  unfold G_L_chances_hold runS m_L_chances_hold
  -- dies, coins
  rw [seq_nx (S1 := Ec d c .no .no .no .no .no .no .no .no .no .no) (w1 := w2) (by simp only [Ec, runM, runS, env0, flD, cal, sSeq, sIf, sRet, sRetN, sDrop, sAsg, sOwn, sFrz, frz, sPar, sPar3, sNx, sNo, sBk, sCt, sApp, sExt, sSetIx, sAug, sFor, sWhile, m1, m2, mC, mVar, mLook, mAnd, mOr, mNot, mIte, mB, mV, mTru, dTru, mAndV, mOrV, mNotV, mNil, mCons, mTup, mLst, mF, mFS, mItems, mRng, mRng1, mRng2, mRng3, dRng1, dRng2, dRng3, mEnum, mZip, mCut, mNoP, mPt, mRev, mNeg, dNeg, dRev, dCut, mLc, mYes, pName, pTup, pNil, pCons, wipeS, dAdd, dSub, dMul, dDiv, dMod, dMulI, dAddI, dCmp, dIsN, dNotN, isNone, dLenX, dLen, seqOf, dAbs, dMax2, dMin2, dInt, dTuple, dList, dCatL, dRepL, mSt, mStLen, mStCell, sSt, sSt3, drwGet, drwSet, mCh2, mCh3, mCount, dCount, Option.bind_some, Option.map_some, Option.bind_none, Option.map_none, List.getElem?_cons_zero, List.getElem?_cons_succ, List.set_cons_zero, List.set_cons_succ, List.map_cons, List.map_nil, List.cons_append, List.nil_append, List.replicate_succ, List.replicate_zero, List.length_cons, List.length_nil, if_true, if_false, reduceIte, Bool.false_eq_true, Bool.not_true, Bool.not_false, decide_true, decide_false, e1, e2, cd])]
  -- row
  rw [seq_nx (S1 := Ec d c (.val (.tuple (chD d c))) .no .no .no .no .no .no .no .no .no) (w1 := w2) (by simp only [Ec, runM, runS, env0, flD, cal, sSeq, sIf, sRet, sRetN, sDrop, sAsg, sOwn, sFrz, frz, sPar, sPar3, sNx, sNo, sBk, sCt, sApp, sExt, sSetIx, sAug, sFor, sWhile, m1, m2, mC, mVar, mLook, mAnd, mOr, mNot, mIte, mB, mV, mTru, dTru, mAndV, mOrV, mNotV, mNil, mCons, mTup, mLst, mF, mFS, mItems, mRng, mRng1, mRng2, mRng3, dRng1, dRng2, dRng3, mEnum, mZip, mCut, mNoP, mPt, mRev, mNeg, dNeg, dRev, dCut, mLc, mYes, pName, pTup, pNil, pCons, wipeS, dAdd, dSub, dMul, dDiv, dMod, dMulI, dAddI, dCmp, dIsN, dNotN, isNone, dLenX, dLen, seqOf, dAbs, dMax2, dMin2, dInt, dTuple, dList, dCatL, dRepL, mSt, mStLen, mStCell, sSt, sSt3, drwGet, drwSet, mCh2, mCh3, mCount, dCount, Option.bind_some, Option.map_some, Option.bind_none, Option.map_none, List.getElem?_cons_zero, List.getElem?_cons_succ, List.set_cons_zero, List.set_cons_succ, List.map_cons, List.map_nil, List.cons_append, List.nil_append, List.replicate_succ, List.replicate_zero, List.length_cons, List.length_nil, if_true, if_false, reduceIte, Bool.false_eq_true, Bool.not_true, Bool.not_false, decide_true, decide_false, ch, Nat.zero_add, Nat.reduceAdd])]
  -- the first test
  rw [seq_nx (if_no (w1 := w2) (by
    have pl := parts_list h1 hd9 hc (w := w2) .no
    have ln : (((chD d c).length : Nat) : Int) = (d : Int) + 1 := by rw [chD_len]; omega
    have l3 : ((List.range (d + 1)).map (fun k => frac (k * r d c k) (d ^ c))).length ≤ LB := by rw [List.length_map, List.length_range]; show d + 1 ≤ 1000000; omega
    have n1 : dNe (.int ((d : Int) + 1)) (.int ((d : Int) + 1)) = some (.bool false) := dNe_refl rfl
    have n2 : dNe (prD 1 1) (.tuple [.int 1, .int 1]) = some (.bool false) := dNe_refl (d := prD 1 1) rfl
    have n3 : dNe (frac (T (r d c) (d + 1)) (d ^ c)) (frac (T (r d c) (d + 1)) (d ^ c)) = some (.bool false) := dNe_refl rfl
    simp only [Ec] at pl
    simp only [Ec, runM, runS, env0, flD, cal, sSeq, sIf, sRet, sRetN, sDrop, sAsg, sOwn, sFrz, frz, sPar, sPar3, sNx, sNo, sBk, sCt, sApp, sExt, sSetIx, sAug, sFor, sWhile, m1, m2, mC, mVar, mLook, mAnd, mOr, mNot, mIte, mB, mV, mTru, dTru, mAndV, mOrV, mNotV, mNil, mCons, mTup, mLst, mF, mFS, mItems, mRng, mRng1, mRng2, mRng3, dRng1, dRng2, dRng3, mEnum, mZip, mCut, mNoP, mPt, mRev, mNeg, dNeg, dRev, dCut, mLc, mYes, pName, pTup, pNil, pCons, wipeS, dAdd, dSub, dMul, dDiv, dMod, dMulI, dAddI, dCmp, dIsN, dNotN, isNone, dLenX, dLen, seqOf, dAbs, dMax2, dMin2, dInt, dTuple, dList, dCatL, dRepL, mSt, mStLen, mStCell, sSt, sSt3, drwGet, drwSet, mCh2, mCh3, mCount, dCount, Option.bind_some, Option.map_some, Option.bind_none, Option.map_none, List.getElem?_cons_zero, List.getElem?_cons_succ, List.set_cons_zero, List.set_cons_succ, List.map_cons, List.map_nil, List.cons_append, List.nil_append, List.replicate_succ, List.replicate_zero, List.length_cons, List.length_nil, if_true, if_false, reduceIte, Bool.false_eq_true, Bool.not_true, Bool.not_false, decide_true, decide_false, dLen_tup, ln, n1, so, n2, if_pos l2, Nat.zero_add, Nat.reduceAdd, if_pos sm1, tn1, pl, if_pos l3, ps, mn, n3]))]
  -- due = []
  rw [seq_nx (S1 := Ec d c (.val (.tuple (chD d c))) (.own (.list [])) .no .no .no .no .no .no .no .no) (w1 := w2) (by simp only [Ec, runM, runS, env0, flD, cal, sSeq, sIf, sRet, sRetN, sDrop, sAsg, sOwn, sFrz, frz, sPar, sPar3, sNx, sNo, sBk, sCt, sApp, sExt, sSetIx, sAug, sFor, sWhile, m1, m2, mC, mVar, mLook, mAnd, mOr, mNot, mIte, mB, mV, mTru, dTru, mAndV, mOrV, mNotV, mNil, mCons, mTup, mLst, mF, mFS, mItems, mRng, mRng1, mRng2, mRng3, dRng1, dRng2, dRng3, mEnum, mZip, mCut, mNoP, mPt, mRev, mNeg, dNeg, dRev, dCut, mLc, mYes, pName, pTup, pNil, pCons, wipeS, dAdd, dSub, dMul, dDiv, dMod, dMulI, dAddI, dCmp, dIsN, dNotN, isNone, dLenX, dLen, seqOf, dAbs, dMax2, dMin2, dInt, dTuple, dList, dCatL, dRepL, mSt, mStLen, mStCell, sSt, sSt3, drwGet, drwSet, mCh2, mCh3, mCount, dCount, Option.bind_some, Option.map_some, Option.bind_none, Option.map_none, List.getElem?_cons_zero, List.getElem?_cons_succ, List.set_cons_zero, List.set_cons_succ, List.map_cons, List.map_nil, List.cons_append, List.nil_append, List.replicate_succ, List.replicate_zero, List.length_cons, List.length_nil, if_true, if_false, reduceIte, Bool.false_eq_true, Bool.not_true, Bool.not_false, decide_true, decide_false, if_pos l0])]
  -- the loop
  obtain ⟨t5, t6, t7, lp⟩ := due_loop h1 hd9 hc (w := w2) (d + 1) 0 [] .no .no .no (by omega) rfl
  rw [seq_nx (S1 := Ec d c (.val (.tuple (chD d c))) (.own (.list (chD d (c + 1)))) t5 t6 t7 .no .no .no .no .no) (w1 := w2) (by
    rw [List.nil_append] at lp
    simp only [Nat.zero_add] at lp
    have z : ((0 : Nat) : Int) = 0 := rfl
    rw [z] at lp
    have rg : mRng1 (mCons (m2 dAdd (mLook 1) (mC (.int 1))) mNil) (Ec d c (.val (.tuple (chD d c))) (.own (.list [])) .no .no .no .no .no .no .no .no) w2 = some (rngD 0 1 (d + 1), w2) := by simp only [Ec, runM, runS, env0, flD, cal, sSeq, sIf, sRet, sRetN, sDrop, sAsg, sOwn, sFrz, frz, sPar, sPar3, sNx, sNo, sBk, sCt, sApp, sExt, sSetIx, sAug, sFor, sWhile, m1, m2, mC, mVar, mLook, mAnd, mOr, mNot, mIte, mB, mV, mTru, dTru, mAndV, mOrV, mNotV, mNil, mCons, mTup, mLst, mF, mFS, mItems, mRng, mRng1, mRng2, mRng3, dRng1, dRng2, dRng3, mEnum, mZip, mCut, mNoP, mPt, mRev, mNeg, dNeg, dRev, dCut, mLc, mYes, pName, pTup, pNil, pCons, wipeS, dAdd, dSub, dMul, dDiv, dMod, dMulI, dAddI, dCmp, dIsN, dNotN, isNone, dLenX, dLen, seqOf, dAbs, dMax2, dMin2, dInt, dTuple, dList, dCatL, dRepL, mSt, mStLen, mStCell, sSt, sSt3, drwGet, drwSet, mCh2, mCh3, mCount, dCount, Option.bind_some, Option.map_some, Option.bind_none, Option.map_none, List.getElem?_cons_zero, List.getElem?_cons_succ, List.set_cons_zero, List.set_cons_succ, List.map_cons, List.map_nil, List.cons_append, List.nil_append, List.replicate_succ, List.replicate_zero, List.length_cons, List.length_nil, if_true, if_false, reduceIte, Bool.false_eq_true, Bool.not_true, Bool.not_false, decide_true, decide_false, if_pos sm1, tn1]
    unfold sFor
    rw [rg, Option.bind_some]
    exact lp)]
  -- the same
  rw [seq_nx (if_no (w1 := w2) (by
    have ok := okShow_ch (d := d) (c := c + 1) (by omega) (by omega)
    have sa := ev_same ok
    simp only [Ec, runM, runS, env0, flD, cal, sSeq, sIf, sRet, sRetN, sDrop, sAsg, sOwn, sFrz, frz, sPar, sPar3, sNx, sNo, sBk, sCt, sApp, sExt, sSetIx, sAug, sFor, sWhile, m1, m2, mC, mVar, mLook, mAnd, mOr, mNot, mIte, mB, mV, mTru, dTru, mAndV, mOrV, mNotV, mNil, mCons, mTup, mLst, mF, mFS, mItems, mRng, mRng1, mRng2, mRng3, dRng1, dRng2, dRng3, mEnum, mZip, mCut, mNoP, mPt, mRev, mNeg, dNeg, dRev, dCut, mLc, mYes, pName, pTup, pNil, pCons, wipeS, dAdd, dSub, dMul, dDiv, dMod, dMulI, dAddI, dCmp, dIsN, dNotN, isNone, dLenX, dLen, seqOf, dAbs, dMax2, dMin2, dInt, dTuple, dList, dCatL, dRepL, mSt, mStLen, mStCell, sSt, sSt3, drwGet, drwSet, mCh2, mCh3, mCount, dCount, Option.bind_some, Option.map_some, Option.bind_none, Option.map_none, List.getElem?_cons_zero, List.getElem?_cons_succ, List.set_cons_zero, List.set_cons_succ, List.map_cons, List.map_nil, List.cons_append, List.nil_append, List.replicate_succ, List.replicate_zero, List.length_cons, List.length_nil, if_true, if_false, reduceIte, Bool.false_eq_true, Bool.not_true, Bool.not_false, decide_true, decide_false, ch2, Nat.zero_add, Nat.reduceAdd, sa]))]
  -- up, down = 1, 1
  rw [seq_nx (S1 := Ec d c (.val (.tuple (chD d c))) (.own (.list (chD d (c + 1)))) t5 t6 t7 (.val (.int 1)) (.val (.int 1)) .no .no .no) (w1 := w2) (by simp only [Ec, runM, runS, env0, flD, cal, sSeq, sIf, sRet, sRetN, sDrop, sAsg, sOwn, sFrz, frz, sPar, sPar3, sNx, sNo, sBk, sCt, sApp, sExt, sSetIx, sAug, sFor, sWhile, m1, m2, mC, mVar, mLook, mAnd, mOr, mNot, mIte, mB, mV, mTru, dTru, mAndV, mOrV, mNotV, mNil, mCons, mTup, mLst, mF, mFS, mItems, mRng, mRng1, mRng2, mRng3, dRng1, dRng2, dRng3, mEnum, mZip, mCut, mNoP, mPt, mRev, mNeg, dNeg, dRev, dCut, mLc, mYes, pName, pTup, pNil, pCons, wipeS, dAdd, dSub, dMul, dDiv, dMod, dMulI, dAddI, dCmp, dIsN, dNotN, isNone, dLenX, dLen, seqOf, dAbs, dMax2, dMin2, dInt, dTuple, dList, dCatL, dRepL, mSt, mStLen, mStCell, sSt, sSt3, drwGet, drwSet, mCh2, mCh3, mCount, dCount, Option.bind_some, Option.map_some, Option.bind_none, Option.map_none, List.getElem?_cons_zero, List.getElem?_cons_succ, List.set_cons_zero, List.set_cons_succ, List.map_cons, List.map_nil, List.cons_append, List.nil_append, List.replicate_succ, List.replicate_zero, List.length_cons, List.length_nil, if_true, if_false, reduceIte, Bool.false_eq_true, Bool.not_true, Bool.not_false, decide_true, decide_false, if_pos l2, Nat.zero_add, Nat.reduceAdd])]
  -- the powers
  obtain ⟨t10, lp2⟩ := pow_loop (x := d - 1) (y := d) (S := fun a e t => Ec d c (.val (.tuple (chD d c))) (.own (.list (chD d (c + 1)))) t5 t6 t7 a e t .no .no) (b := sPar 8 9 (mCons (m2 dMul (mLook 8) (m2 dSub (mLook 1) (mC (.int 1)))) (mCons (m2 dMul (mLook 9) (mLook 1)) mNil))) (w := w2) (i := 10) (fun a e t v => rfl) (by omega) (by omega)
    (fun a e t => by
      have e0 : (d : Int) - 1 = ((d - 1 : Nat) : Int) := by omega
      have m1 : mulOk ((a : Nat) : Int) ((d - 1 : Nat) : Int) := mulOk_r (by omega) (by omega)
      have m2' : mulOk ((e : Nat) : Int) ((d : Nat) : Int) := mulOk_r (by omega) (by omega)
      simp only [Ec, runM, runS, env0, flD, cal, sSeq, sIf, sRet, sRetN, sDrop, sAsg, sOwn, sFrz, frz, sPar, sPar3, sNx, sNo, sBk, sCt, sApp, sExt, sSetIx, sAug, sFor, sWhile, m1, m2, mC, mVar, mLook, mAnd, mOr, mNot, mIte, mB, mV, mTru, dTru, mAndV, mOrV, mNotV, mNil, mCons, mTup, mLst, mF, mFS, mItems, mRng, mRng1, mRng2, mRng3, dRng1, dRng2, dRng3, mEnum, mZip, mCut, mNoP, mPt, mRev, mNeg, dNeg, dRev, dCut, mLc, mYes, pName, pTup, pNil, pCons, wipeS, dAdd, dSub, dMul, dDiv, dMod, dMulI, dAddI, dCmp, dIsN, dNotN, isNone, dLenX, dLen, seqOf, dAbs, dMax2, dMin2, dInt, dTuple, dList, dCatL, dRepL, mSt, mStLen, mStCell, sSt, sSt3, drwGet, drwSet, mCh2, mCh3, mCount, dCount, Option.bind_some, Option.map_some, Option.bind_none, Option.map_none, List.getElem?_cons_zero, List.getElem?_cons_succ, List.set_cons_zero, List.set_cons_succ, List.map_cons, List.map_nil, List.cons_append, List.nil_append, List.replicate_succ, List.replicate_zero, List.length_cons, List.length_nil, if_true, if_false, reduceIte, Bool.false_eq_true, Bool.not_true, Bool.not_false, decide_true, decide_false, e0, if_pos m1, if_pos m2', Int.natCast_mul]) c 0 1 1 .no
  rw [seq_nx (S1 := Ec d c (.val (.tuple (chD d c))) (.own (.list (chD d (c + 1)))) t5 t6 t7 (.val (.int (((d - 1) ^ c : Nat) : Int))) (.val (.int ((d ^ c : Nat) : Int))) t10 .no .no) (w1 := w2) (by
    rw [Nat.one_mul, Nat.one_mul] at lp2
    have rg : mRng1 (mCons (mVar 2) mNil) (Ec d c (.val (.tuple (chD d c))) (.own (.list (chD d (c + 1)))) t5 t6 t7 (.val (.int 1)) (.val (.int 1)) .no .no .no) w2 = some (rngD 0 1 c, w2) := by simp only [Ec, runM, runS, env0, flD, cal, sSeq, sIf, sRet, sRetN, sDrop, sAsg, sOwn, sFrz, frz, sPar, sPar3, sNx, sNo, sBk, sCt, sApp, sExt, sSetIx, sAug, sFor, sWhile, m1, m2, mC, mVar, mLook, mAnd, mOr, mNot, mIte, mB, mV, mTru, dTru, mAndV, mOrV, mNotV, mNil, mCons, mTup, mLst, mF, mFS, mItems, mRng, mRng1, mRng2, mRng3, dRng1, dRng2, dRng3, mEnum, mZip, mCut, mNoP, mPt, mRev, mNeg, dNeg, dRev, dCut, mLc, mYes, pName, pTup, pNil, pCons, wipeS, dAdd, dSub, dMul, dDiv, dMod, dMulI, dAddI, dCmp, dIsN, dNotN, isNone, dLenX, dLen, seqOf, dAbs, dMax2, dMin2, dInt, dTuple, dList, dCatL, dRepL, mSt, mStLen, mStCell, sSt, sSt3, drwGet, drwSet, mCh2, mCh3, mCount, dCount, Option.bind_some, Option.map_some, Option.bind_none, Option.map_none, List.getElem?_cons_zero, List.getElem?_cons_succ, List.set_cons_zero, List.set_cons_succ, List.map_cons, List.map_nil, List.cons_append, List.nil_append, List.replicate_succ, List.replicate_zero, List.length_cons, List.length_nil, if_true, if_false, reduceIte, Bool.false_eq_true, Bool.not_true, Bool.not_false, decide_true, decide_false, if_pos sm2, tn2]
    unfold sFor
    rw [rg, Option.bind_some]
    exact lp2)]
  -- the mean
  rw [seq_nx (if_no (w1 := w2) (by
    have le : (d - 1) ^ c ≤ d ^ c := Nat.pow_le_pow_left (by omega) c
    have ez : ((d ^ c : Nat) : Int) - (((d - 1) ^ c : Nat) : Int) = ((d ^ c - (d - 1) ^ c : Nat) : Int) := by omega
    have em : (d : Int) * ((d ^ c - (d - 1) ^ c : Nat) : Int) = ((d * (d ^ c - (d - 1) ^ c) : Nat) : Int) := (Int.natCast_mul _ _).symm
    have tr := T_row d h1 c
    have et : d * (d ^ c - (d - 1) ^ c) = T (r d c) (d + 1) := by rw [Nat.mul_sub]; omega
    have tm := T_MB (show d ≤ 40 by omega) (show c ≤ 62 by omega)
    have m1 : mulOk (d : Int) ((d ^ c - (d - 1) ^ c : Nat) : Int) := mulOk_l (by omega) (by omega)
    have q := ev_L_quotient (u := T (r d c) (d + 1)) (d := d ^ c) (up_MB (dn_MB (by omega))) pp (up_MB (dn_MB (by omega)))
    have n3 : dNe (frac (T (r d c) (d + 1)) (d ^ c)) (frac (T (r d c) (d + 1)) (d ^ c)) = some (.bool false) := dNe_refl rfl
    simp only [Ec, runM, runS, env0, flD, cal, sSeq, sIf, sRet, sRetN, sDrop, sAsg, sOwn, sFrz, frz, sPar, sPar3, sNx, sNo, sBk, sCt, sApp, sExt, sSetIx, sAug, sFor, sWhile, m1, m2, mC, mVar, mLook, mAnd, mOr, mNot, mIte, mB, mV, mTru, dTru, mAndV, mOrV, mNotV, mNil, mCons, mTup, mLst, mF, mFS, mItems, mRng, mRng1, mRng2, mRng3, dRng1, dRng2, dRng3, mEnum, mZip, mCut, mNoP, mPt, mRev, mNeg, dNeg, dRev, dCut, mLc, mYes, pName, pTup, pNil, pCons, wipeS, dAdd, dSub, dMul, dDiv, dMod, dMulI, dAddI, dCmp, dIsN, dNotN, isNone, dLenX, dLen, seqOf, dAbs, dMax2, dMin2, dInt, dTuple, dList, dCatL, dRepL, mSt, mStLen, mStCell, sSt, sSt3, drwGet, drwSet, mCh2, mCh3, mCount, dCount, Option.bind_some, Option.map_some, Option.bind_none, Option.map_none, List.getElem?_cons_zero, List.getElem?_cons_succ, List.set_cons_zero, List.set_cons_succ, List.map_cons, List.map_nil, List.cons_append, List.nil_append, List.replicate_succ, List.replicate_zero, List.length_cons, List.length_nil, if_true, if_false, reduceIte, Bool.false_eq_true, Bool.not_true, Bool.not_false, decide_true, decide_false, mn, Nat.zero_add, Nat.reduceAdd, ez, if_pos m1, em, et, q, n3]))]
  -- seen, more
  rw [seq_nx (S1 := Ec d c (.val (.tuple (chD d c))) (.own (.list (chD d (c + 1)))) t5 t6 t7 (.val (.int (((d - 1) ^ c : Nat) : Int))) (.val (.int ((d ^ c : Nat) : Int))) t10 (.val (.int (s : Nat))) (.val (.int (m : Nat)))) (w1 := w4) (by simp only [Ec, runM, runS, env0, flD, cal, sSeq, sIf, sRet, sRetN, sDrop, sAsg, sOwn, sFrz, frz, sPar, sPar3, sNx, sNo, sBk, sCt, sApp, sExt, sSetIx, sAug, sFor, sWhile, m1, m2, mC, mVar, mLook, mAnd, mOr, mNot, mIte, mB, mV, mTru, dTru, mAndV, mOrV, mNotV, mNil, mCons, mTup, mLst, mF, mFS, mItems, mRng, mRng1, mRng2, mRng3, dRng1, dRng2, dRng3, mEnum, mZip, mCut, mNoP, mPt, mRev, mNeg, dNeg, dRev, dCut, mLc, mYes, pName, pTup, pNil, pCons, wipeS, dAdd, dSub, dMul, dDiv, dMod, dMulI, dAddI, dCmp, dIsN, dNotN, isNone, dLenX, dLen, seqOf, dAbs, dMax2, dMin2, dInt, dTuple, dList, dCatL, dRepL, mSt, mStLen, mStCell, sSt, sSt3, drwGet, drwSet, mCh2, mCh3, mCount, dCount, Option.bind_some, Option.map_some, Option.bind_none, Option.map_none, List.getElem?_cons_zero, List.getElem?_cons_succ, List.set_cons_zero, List.set_cons_succ, List.map_cons, List.map_nil, List.cons_append, List.nil_append, List.replicate_succ, List.replicate_zero, List.length_cons, List.length_nil, if_true, if_false, reduceIte, Bool.false_eq_true, Bool.not_true, Bool.not_false, decide_true, decide_false, e3, e4])]
  rw [seq_nx (S1 := Ec d c (.val (.tuple (chD d c))) (.own (.list (chD d (c + 1)))) t5 t6 t7 (.val (.int 1)) (.val (.int 1)) t10 (.val (.int (s : Nat))) (.val (.int (m : Nat)))) (w1 := w4) (by simp only [Ec, runM, runS, env0, flD, cal, sSeq, sIf, sRet, sRetN, sDrop, sAsg, sOwn, sFrz, frz, sPar, sPar3, sNx, sNo, sBk, sCt, sApp, sExt, sSetIx, sAug, sFor, sWhile, m1, m2, mC, mVar, mLook, mAnd, mOr, mNot, mIte, mB, mV, mTru, dTru, mAndV, mOrV, mNotV, mNil, mCons, mTup, mLst, mF, mFS, mItems, mRng, mRng1, mRng2, mRng3, dRng1, dRng2, dRng3, mEnum, mZip, mCut, mNoP, mPt, mRev, mNeg, dNeg, dRev, dCut, mLc, mYes, pName, pTup, pNil, pCons, wipeS, dAdd, dSub, dMul, dDiv, dMod, dMulI, dAddI, dCmp, dIsN, dNotN, isNone, dLenX, dLen, seqOf, dAbs, dMax2, dMin2, dInt, dTuple, dList, dCatL, dRepL, mSt, mStLen, mStCell, sSt, sSt3, drwGet, drwSet, mCh2, mCh3, mCount, dCount, Option.bind_some, Option.map_some, Option.bind_none, Option.map_none, List.getElem?_cons_zero, List.getElem?_cons_succ, List.set_cons_zero, List.set_cons_succ, List.map_cons, List.map_nil, List.cons_append, List.nil_append, List.replicate_succ, List.replicate_zero, List.length_cons, List.length_nil, if_true, if_false, reduceIte, Bool.false_eq_true, Bool.not_true, Bool.not_false, decide_true, decide_false, if_pos l2, Nat.zero_add, Nat.reduceAdd])]
  obtain ⟨t11, lp3⟩ := pow_loop (x := s) (y := d) (S := fun a e t => Ec d c (.val (.tuple (chD d c))) (.own (.list (chD d (c + 1)))) t5 t6 t7 a e t (.val (.int (s : Nat))) (.val (.int (m : Nat)))) (b := sPar 8 9 (mCons (m2 dMul (mLook 8) (mLook 11)) (mCons (m2 dMul (mLook 9) (mLook 1)) mNil))) (w := w4) (i := 10) (fun a e t v => rfl) (by omega) (by omega)
    (fun a e t => by
      have m1 : mulOk ((a : Nat) : Int) ((s : Nat) : Int) := mulOk_r (by omega) (by omega)
      have m2' : mulOk ((e : Nat) : Int) ((d : Nat) : Int) := mulOk_r (by omega) (by omega)
      simp only [Ec, runM, runS, env0, flD, cal, sSeq, sIf, sRet, sRetN, sDrop, sAsg, sOwn, sFrz, frz, sPar, sPar3, sNx, sNo, sBk, sCt, sApp, sExt, sSetIx, sAug, sFor, sWhile, m1, m2, mC, mVar, mLook, mAnd, mOr, mNot, mIte, mB, mV, mTru, dTru, mAndV, mOrV, mNotV, mNil, mCons, mTup, mLst, mF, mFS, mItems, mRng, mRng1, mRng2, mRng3, dRng1, dRng2, dRng3, mEnum, mZip, mCut, mNoP, mPt, mRev, mNeg, dNeg, dRev, dCut, mLc, mYes, pName, pTup, pNil, pCons, wipeS, dAdd, dSub, dMul, dDiv, dMod, dMulI, dAddI, dCmp, dIsN, dNotN, isNone, dLenX, dLen, seqOf, dAbs, dMax2, dMin2, dInt, dTuple, dList, dCatL, dRepL, mSt, mStLen, mStCell, sSt, sSt3, drwGet, drwSet, mCh2, mCh3, mCount, dCount, Option.bind_some, Option.map_some, Option.bind_none, Option.map_none, List.getElem?_cons_zero, List.getElem?_cons_succ, List.set_cons_zero, List.set_cons_succ, List.map_cons, List.map_nil, List.cons_append, List.nil_append, List.replicate_succ, List.replicate_zero, List.length_cons, List.length_nil, if_true, if_false, reduceIte, Bool.false_eq_true, Bool.not_true, Bool.not_false, decide_true, decide_false, if_pos m1, if_pos m2', Int.natCast_mul]) m 0 1 1 t10
  rw [seq_nx (S1 := Ec d c (.val (.tuple (chD d c))) (.own (.list (chD d (c + 1)))) t5 t6 t7 (.val (.int ((s ^ m : Nat) : Int))) (.val (.int ((d ^ m : Nat) : Int))) t11 (.val (.int (s : Nat))) (.val (.int (m : Nat)))) (w1 := w4) (by
    rw [Nat.one_mul, Nat.one_mul] at lp3
    have rg : mRng1 (mCons (mVar 12) mNil) (Ec d c (.val (.tuple (chD d c))) (.own (.list (chD d (c + 1)))) t5 t6 t7 (.val (.int 1)) (.val (.int 1)) t10 (.val (.int (s : Nat))) (.val (.int (m : Nat)))) w4 = some (rngD 0 1 m, w4) := by simp only [Ec, runM, runS, env0, flD, cal, sSeq, sIf, sRet, sRetN, sDrop, sAsg, sOwn, sFrz, frz, sPar, sPar3, sNx, sNo, sBk, sCt, sApp, sExt, sSetIx, sAug, sFor, sWhile, m1, m2, mC, mVar, mLook, mAnd, mOr, mNot, mIte, mB, mV, mTru, dTru, mAndV, mOrV, mNotV, mNil, mCons, mTup, mLst, mF, mFS, mItems, mRng, mRng1, mRng2, mRng3, dRng1, dRng2, dRng3, mEnum, mZip, mCut, mNoP, mPt, mRev, mNeg, dNeg, dRev, dCut, mLc, mYes, pName, pTup, pNil, pCons, wipeS, dAdd, dSub, dMul, dDiv, dMod, dMulI, dAddI, dCmp, dIsN, dNotN, isNone, dLenX, dLen, seqOf, dAbs, dMax2, dMin2, dInt, dTuple, dList, dCatL, dRepL, mSt, mStLen, mStCell, sSt, sSt3, drwGet, drwSet, mCh2, mCh3, mCount, dCount, Option.bind_some, Option.map_some, Option.bind_none, Option.map_none, List.getElem?_cons_zero, List.getElem?_cons_succ, List.set_cons_zero, List.set_cons_succ, List.map_cons, List.map_nil, List.cons_append, List.nil_append, List.replicate_succ, List.replicate_zero, List.length_cons, List.length_nil, if_true, if_false, reduceIte, Bool.false_eq_true, Bool.not_true, Bool.not_false, decide_true, decide_false, if_pos sm3, tn3]
    unfold sFor
    rw [rg, Option.bind_some]
    exact lp3)]
  have cn := ev_chance_new (d := d) (s := s) (n := m) h1 (by omega) (by omega) (by omega)
  have ppm : 0 < d ^ m := Nat.pow_pos h1
  have pwm := pow_MB (show d ≤ 40 by omega) (show m ≤ 62 by omega)
  have lem : s ^ m ≤ d ^ m := Nat.pow_le_pow_left (by omega) m
  have em : ((d ^ m : Nat) : Int) - ((s ^ m : Nat) : Int) = ((d ^ m - s ^ m : Nat) : Int) := by omega
  have q := ev_L_quotient (u := d ^ m - s ^ m) (d := d ^ m) (up_MB (dn_MB (by omega))) ppm (up_MB (dn_MB (by omega)))
  have n4 : dEq (frac (d ^ m - s ^ m) (d ^ m)) (frac (d ^ m - s ^ m) (d ^ m)) = some (.bool true) := dEq_refl rfl
  simp only [Ec, runM, runS, env0, flD, cal, sSeq, sIf, sRet, sRetN, sDrop, sAsg, sOwn, sFrz, frz, sPar, sPar3, sNx, sNo, sBk, sCt, sApp, sExt, sSetIx, sAug, sFor, sWhile, m1, m2, mC, mVar, mLook, mAnd, mOr, mNot, mIte, mB, mV, mTru, dTru, mAndV, mOrV, mNotV, mNil, mCons, mTup, mLst, mF, mFS, mItems, mRng, mRng1, mRng2, mRng3, dRng1, dRng2, dRng3, mEnum, mZip, mCut, mNoP, mPt, mRev, mNeg, dNeg, dRev, dCut, mLc, mYes, pName, pTup, pNil, pCons, wipeS, dAdd, dSub, dMul, dDiv, dMod, dMulI, dAddI, dCmp, dIsN, dNotN, isNone, dLenX, dLen, seqOf, dAbs, dMax2, dMin2, dInt, dTuple, dList, dCatL, dRepL, mSt, mStLen, mStCell, sSt, sSt3, drwGet, drwSet, mCh2, mCh3, mCount, dCount, Option.bind_some, Option.map_some, Option.bind_none, Option.map_none, List.getElem?_cons_zero, List.getElem?_cons_succ, List.set_cons_zero, List.set_cons_succ, List.map_cons, List.map_nil, List.cons_append, List.nil_append, List.replicate_succ, List.replicate_zero, List.length_cons, List.length_nil, if_true, if_false, reduceIte, Bool.false_eq_true, Bool.not_true, Bool.not_false, decide_true, decide_false, cn, em, q, n4, Nat.zero_add, Nat.reduceAdd]
/-! ## counts -/
def nD (cs : List Nat) : List PyData := cs.map fun k => .int ((k : Nat) : Int)
theorem nD_len (cs : List Nat) : (nD cs).length = cs.length := List.length_map _
theorem nD_shp (cs : List Nat) : (nD cs).all (shp 8) = true := by
  unfold nD
  rw [List.all_eq_true]
  intro x hx
  obtain ⟨k, _, rfl⟩ := List.mem_map.mp hx
  rfl
theorem dAll_true (cs : List Nat) : dAll [.list (cs.map fun _ => .bool true)] = some (.bool true) := by
  have e : (cs.map fun _ => PyData.bool true) = (cs.map fun _ => true).map .bool := by rw [List.map_map]; rfl
  show (bolsOf (cs.map fun _ => PyData.bool true)).map (fun bs => PyData.bool (bs.all id)) = _
  rw [e, bolsOf_map, Option.map_some]
  congr 2
  rw [List.all_eq_true]
  intro x hx
  obtain ⟨k, _, rfl⟩ := List.mem_map.mp hx
  rfl
theorem isi_tup (xs : List PyData) (w : Drw) (S : SEnv) (h : mLook 0 S w = some (.tuple xs, w)) : mIsi "tuple" (mLook 0) S w = some (.bool true, w) := by
  unfold mIsi
  rw [h]
  rfl
theorem ev_check_counts {cs : List Nat} (h1 : 1 ≤ cs.length) (h2 : cs.length ≤ 40) (h : ∀ k ∈ cs, 1 ≤ k ∧ k ≤ 60) : G_check_counts [.tuple (nD cs)] = some .none := by
  have hl : lcGo (pName 1) mYes (mAndV (mF (cal 1 G_is_integer) (mCons (mVar 1) mNil)) (mCh2 dLe dLe (mC (.int 1)) (mLook 1) (mC (.int 60)))) [.val (.tuple (nD cs)), .no] (nD cs) w0 = some (cs.map (fun _ => .bool true), w0) := by
    refine lc_nats fun k hk => ⟨_, rfl, ?_⟩
    obtain ⟨a, b⟩ := h k hk
    have a' : (1 : Int) ≤ ((k : Nat) : Int) := by omega
    have b' : ((k : Nat) : Int) ≤ 60 := by omega
    simp only [runM, runS, env0, flD, cal, sSeq, sIf, sRet, sRetN, sDrop, sAsg, sOwn, sFrz, frz, sPar, sPar3, sNx, sNo, sBk, sCt, sApp, sExt, sSetIx, sAug, sFor, sWhile, m1, m2, mC, mVar, mLook, mAnd, mOr, mNot, mIte, mB, mV, mTru, dTru, mAndV, mOrV, mNotV, mNil, mCons, mTup, mLst, mF, mFS, mItems, mRng, mRng1, mRng2, mRng3, dRng1, dRng2, dRng3, mEnum, mZip, mCut, mNoP, mPt, mRev, mNeg, dNeg, dRev, dCut, mLc, mYes, pName, pTup, pNil, pCons, wipeS, dAdd, dSub, dMul, dDiv, dMod, dMulI, dAddI, dCmp, dIsN, dNotN, isNone, dLenX, dLen, seqOf, dAbs, dMax2, dMin2, dInt, dTuple, dList, dCatL, dRepL, mSt, mStLen, mStCell, sSt, sSt3, drwGet, drwSet, mCh2, mCh3, mCount, dCount, Option.bind_some, Option.map_some, Option.bind_none, Option.map_none, List.getElem?_cons_zero, List.getElem?_cons_succ, List.set_cons_zero, List.set_cons_succ, List.map_cons, List.map_nil, List.cons_append, List.nil_append, List.replicate_succ, List.replicate_zero, List.length_cons, List.length_nil, if_true, if_false, reduceIte, Bool.false_eq_true, Bool.not_true, Bool.not_false, decide_true, decide_false, ev_is_integer, Nat.zero_add, Nat.reduceAdd, a', b']
  have ln : (cs.map fun _ => PyData.bool true).length ≤ LB := by rw [List.length_map]; show _ ≤ 1000000; omega
  have l1 : (1 : Int) ≤ (((nD cs).length : Nat) : Int) := by rw [nD_len]; omega
  have l2 : (((nD cs).length : Nat) : Int) ≤ 40 := by rw [nD_len]; omega
  have it := isi_tup (nD cs) w0 [.val (.tuple (nD cs)), .no] rfl
  simp only [G_check_counts, m_check_counts, runM, runS, env0, flD, cal, sSeq, sIf, sRet, sRetN, sDrop, sAsg, sOwn, sFrz, frz, sPar, sPar3, sNx, sNo, sBk, sCt, sApp, sExt, sSetIx, sAug, sFor, sWhile, m1, m2, mC, mVar, mLook, mAnd, mOr, mNot, mIte, mB, mV, mTru, dTru, mAndV, mOrV, mNotV, mNil, mCons, mTup, mLst, mF, mFS, mItems, mRng, mRng1, mRng2, mRng3, dRng1, dRng2, dRng3, mEnum, mZip, mCut, mNoP, mPt, mRev, mNeg, dNeg, dRev, dCut, mLc, mYes, pName, pTup, pNil, pCons, wipeS, dAdd, dSub, dMul, dDiv, dMod, dMulI, dAddI, dCmp, dIsN, dNotN, isNone, dLenX, dLen, seqOf, dAbs, dMax2, dMin2, dInt, dTuple, dList, dCatL, dRepL, mSt, mStLen, mStCell, sSt, sSt3, drwGet, drwSet, mCh2, mCh3, mCount, dCount, Option.bind_some, Option.map_some, Option.bind_none, Option.map_none, List.getElem?_cons_zero, List.getElem?_cons_succ, List.set_cons_zero, List.set_cons_succ, List.map_cons, List.map_nil, List.cons_append, List.nil_append, List.replicate_succ, List.replicate_zero, List.length_cons, List.length_nil, if_true, if_false, reduceIte, Bool.false_eq_true, Bool.not_true, Bool.not_false, decide_true, decide_false, it, dLen_tup, l1, l2, hl, if_pos ln, dAll_true]
def sq (cs : List Nat) : Nat := (cs.map fun k => k * (k - 1)).sum
theorem ev_coverage {cs : List Nat} (h1 : 1 ≤ cs.length) (h2 : cs.length ≤ 40) (h : ∀ k ∈ cs, 1 ≤ k ∧ k ≤ 60) (hs : cs.sum ≤ 10000) (hp : 0 < cs.sum) : G_coverage [.tuple (nD cs)] = some (frac (cs.sum - (cs.filter (· == 1)).length) cs.sum) := by
  have cc := ev_check_counts h1 h2 h
  have hl : lcGo (pName 2) (mB (m2 dEq (mLook 2) (mC (.int 1)))) (mVar 2) [.val (.tuple (nD cs)), .no, .no] (nD cs) w0 = some (nD (cs.filter (· == 1)), w0) := by
    have e := lc_filter (p := pName 2) (t := mB (m2 dEq (mLook 2) (mC (.int 1)))) (e := mVar 2) (S := [.val (.tuple (nD cs)), .no, .no]) (w := w0) (f := fun d => d) (c := fun d => PyData.eqv d (.int 1)) (ds := nD cs) (fun d hd => by
      obtain ⟨k, _, rfl⟩ := List.mem_map.mp hd
      refine ⟨_, rfl, ?_, fun _ => rfl⟩
      have e0 : decide (((k : Nat) : Int) = 1) = (((k : Nat) : Int) == 1) := by by_cases e : ((k : Nat) : Int) = 1 <;> simp [e]
      simp only [runM, runS, env0, flD, cal, sSeq, sIf, sRet, sRetN, sDrop, sAsg, sOwn, sFrz, frz, sPar, sPar3, sNx, sNo, sBk, sCt, sApp, sExt, sSetIx, sAug, sFor, sWhile, m1, m2, mC, mVar, mLook, mAnd, mOr, mNot, mIte, mB, mV, mTru, dTru, mAndV, mOrV, mNotV, mNil, mCons, mTup, mLst, mF, mFS, mItems, mRng, mRng1, mRng2, mRng3, dRng1, dRng2, dRng3, mEnum, mZip, mCut, mNoP, mPt, mRev, mNeg, dNeg, dRev, dCut, mLc, mYes, pName, pTup, pNil, pCons, wipeS, dAdd, dSub, dMul, dDiv, dMod, dMulI, dAddI, dCmp, dIsN, dNotN, isNone, dLenX, dLen, seqOf, dAbs, dMax2, dMin2, dInt, dTuple, dList, dCatL, dRepL, mSt, mStLen, mStCell, sSt, sSt3, drwGet, drwSet, mCh2, mCh3, mCount, dCount, Option.bind_some, Option.map_some, Option.bind_none, Option.map_none, List.getElem?_cons_zero, List.getElem?_cons_succ, List.set_cons_zero, List.set_cons_succ, List.map_cons, List.map_nil, List.cons_append, List.nil_append, List.replicate_succ, List.replicate_zero, List.length_cons, List.length_nil, if_true, if_false, reduceIte, Bool.false_eq_true, Bool.not_true, Bool.not_false, decide_true, decide_false, dEq_int, eqv_int, e0])
    rw [e]
    congr 2
    rw [List.map_id']
    unfold nD
    rw [List.filter_map]
    congr 1
    refine List.filter_congr fun k _ => ?_
    show PyData.eqv (.int ((k : Nat) : Int)) (.int 1) = _
    rw [eqv_int]
    by_cases e : k = 1
    · subst e; rfl
    · have e2 : ((k : Nat) : Int) ≠ 1 := by omega
      exact (beq_false_of_ne e2).trans (beq_false_of_ne e).symm
  have fl := List.length_filter_le (· == 1) cs
  have ls : cs.length ≤ cs.sum := by
    have : ∀ l : List Nat, (∀ k ∈ l, 1 ≤ k ∧ k ≤ 60) → l.length ≤ l.sum := fun l => by
      induction l with
      | nil => intro _; exact Nat.le_refl _
      | cons a l ih =>
        intro hh
        have := ih fun k hk => hh k (List.mem_cons_of_mem _ hk)
        have := (hh a List.mem_cons_self).1
        rw [List.length_cons, List.sum_cons]; omega
    exact this cs h
  have ln : (nD (cs.filter (· == 1))).length ≤ LB := by rw [nD_len]; show _ ≤ 1000000; omega
  have sm := dSum_natsT (fun k => k) cs
  rw [List.map_id'] at sm
  have sm' : dSum [.tuple (nD cs)] = some (.int ((cs.sum : Nat) : Int)) := sm
  have e1 : ((cs.sum : Nat) : Int) - (((nD (cs.filter (· == 1))).length : Nat) : Int) = ((cs.sum - (cs.filter (· == 1)).length : Nat) : Int) := by rw [nD_len]; omega
  have q := ev_quotient (u := cs.sum - (cs.filter (· == 1)).length) (d := cs.sum) (up_MB (dn_MB (by omega))) hp (up_MB (dn_MB (by omega)))
  have dl : dLenX [.list (nD (cs.filter (· == 1)))] = some (.int (((nD (cs.filter (· == 1))).length : Nat) : Int)) := rfl
  simp only [G_coverage, m_coverage, runM, runS, env0, flD, cal, sSeq, sIf, sRet, sRetN, sDrop, sAsg, sOwn, sFrz, frz, sPar, sPar3, sNx, sNo, sBk, sCt, sApp, sExt, sSetIx, sAug, sFor, sWhile, m1, m2, mC, mVar, mLook, mAnd, mOr, mNot, mIte, mB, mV, mTru, dTru, mAndV, mOrV, mNotV, mNil, mCons, mTup, mLst, mF, mFS, mItems, mRng, mRng1, mRng2, mRng3, dRng1, dRng2, dRng3, mEnum, mZip, mCut, mNoP, mPt, mRev, mNeg, dNeg, dRev, dCut, mLc, mYes, pName, pTup, pNil, pCons, wipeS, dAdd, dSub, dMul, dDiv, dMod, dMulI, dAddI, dCmp, dIsN, dNotN, isNone, dLenX, dLen, seqOf, dAbs, dMax2, dMin2, dInt, dTuple, dList, dCatL, dRepL, mSt, mStLen, mStCell, sSt, sSt3, drwGet, drwSet, mCh2, mCh3, mCount, dCount, Option.bind_some, Option.map_some, Option.bind_none, Option.map_none, List.getElem?_cons_zero, List.getElem?_cons_succ, List.set_cons_zero, List.set_cons_succ, List.map_cons, List.map_nil, List.cons_append, List.nil_append, List.replicate_succ, List.replicate_zero, List.length_cons, List.length_nil, if_true, if_false, reduceIte, Bool.false_eq_true, Bool.not_true, Bool.not_false, decide_true, decide_false, cc, hl, if_pos ln, dl, sm', e1, q, Nat.zero_add, Nat.reduceAdd]
theorem ev_chance_alike {cs : List Nat} (h1 : 1 ≤ cs.length) (h2 : cs.length ≤ 40) (h : ∀ k ∈ cs, 1 ≤ k ∧ k ≤ 60) (hs : cs.sum ≤ 10000) : G_chance_alike [.tuple (nD cs)] = some (if cs.sum < 2 then .none else frac (sq cs) (cs.sum * (cs.sum - 1))) := by
  have cc := ev_check_counts h1 h2 h
  have sm := dSum_natsT (fun k => k) cs
  rw [List.map_id'] at sm
  have sm' : dSum [.tuple (nD cs)] = some (.int ((cs.sum : Nat) : Int)) := sm
  by_cases c2 : cs.sum < 2
  · have c2' : ((cs.sum : Nat) : Int) < 2 := by omega
    rw [if_pos c2]
    simp only [G_chance_alike, m_chance_alike, runM, runS, env0, flD, cal, sSeq, sIf, sRet, sRetN, sDrop, sAsg, sOwn, sFrz, frz, sPar, sPar3, sNx, sNo, sBk, sCt, sApp, sExt, sSetIx, sAug, sFor, sWhile, m1, m2, mC, mVar, mLook, mAnd, mOr, mNot, mIte, mB, mV, mTru, dTru, mAndV, mOrV, mNotV, mNil, mCons, mTup, mLst, mF, mFS, mItems, mRng, mRng1, mRng2, mRng3, dRng1, dRng2, dRng3, mEnum, mZip, mCut, mNoP, mPt, mRev, mNeg, dNeg, dRev, dCut, mLc, mYes, pName, pTup, pNil, pCons, wipeS, dAdd, dSub, dMul, dDiv, dMod, dMulI, dAddI, dCmp, dIsN, dNotN, isNone, dLenX, dLen, seqOf, dAbs, dMax2, dMin2, dInt, dTuple, dList, dCatL, dRepL, mSt, mStLen, mStCell, sSt, sSt3, drwGet, drwSet, mCh2, mCh3, mCount, dCount, Option.bind_some, Option.map_some, Option.bind_none, Option.map_none, List.getElem?_cons_zero, List.getElem?_cons_succ, List.set_cons_zero, List.set_cons_succ, List.map_cons, List.map_nil, List.cons_append, List.nil_append, List.replicate_succ, List.replicate_zero, List.length_cons, List.length_nil, if_true, if_false, reduceIte, Bool.false_eq_true, Bool.not_true, Bool.not_false, decide_true, decide_false, cc, sm', c2', Nat.zero_add, Nat.reduceAdd]
  · have c2' : ¬ ((cs.sum : Nat) : Int) < 2 := by omega
    rw [if_neg c2]
    have hl : lcGo (pName 2) mYes (m2 dMul (mLook 2) (m2 dSub (mLook 2) (mC (.int 1)))) [.val (.tuple (nD cs)), .val (.int ((cs.sum : Nat) : Int)), .no] (nD cs) w0 = some (cs.map (fun k => .int ((k * (k - 1) : Nat) : Int)), w0) := by
      refine lc_nats fun k hk => ⟨_, rfl, ?_⟩
      obtain ⟨a, b⟩ := h k hk
      have e : ((k : Nat) : Int) - 1 = ((k - 1 : Nat) : Int) := by omega
      have m1 : mulOk ((k : Nat) : Int) ((k - 1 : Nat) : Int) := mulOk_l (by omega) (by omega)
      simp only [runM, runS, env0, flD, cal, sSeq, sIf, sRet, sRetN, sDrop, sAsg, sOwn, sFrz, frz, sPar, sPar3, sNx, sNo, sBk, sCt, sApp, sExt, sSetIx, sAug, sFor, sWhile, m1, m2, mC, mVar, mLook, mAnd, mOr, mNot, mIte, mB, mV, mTru, dTru, mAndV, mOrV, mNotV, mNil, mCons, mTup, mLst, mF, mFS, mItems, mRng, mRng1, mRng2, mRng3, dRng1, dRng2, dRng3, mEnum, mZip, mCut, mNoP, mPt, mRev, mNeg, dNeg, dRev, dCut, mLc, mYes, pName, pTup, pNil, pCons, wipeS, dAdd, dSub, dMul, dDiv, dMod, dMulI, dAddI, dCmp, dIsN, dNotN, isNone, dLenX, dLen, seqOf, dAbs, dMax2, dMin2, dInt, dTuple, dList, dCatL, dRepL, mSt, mStLen, mStCell, sSt, sSt3, drwGet, drwSet, mCh2, mCh3, mCount, dCount, Option.bind_some, Option.map_some, Option.bind_none, Option.map_none, List.getElem?_cons_zero, List.getElem?_cons_succ, List.set_cons_zero, List.set_cons_succ, List.map_cons, List.map_nil, List.cons_append, List.nil_append, List.replicate_succ, List.replicate_zero, List.length_cons, List.length_nil, if_true, if_false, reduceIte, Bool.false_eq_true, Bool.not_true, Bool.not_false, decide_true, decide_false, e, if_pos m1, Int.natCast_mul]
    have ln : (cs.map fun k => PyData.int ((k * (k - 1) : Nat) : Int)).length ≤ LB := by rw [List.length_map]; show _ ≤ 1000000; omega
    have sq1 := dSum_nats (fun k => k * (k - 1)) cs
    have sqb : sq cs ≤ 60 * 60 * cs.length := by
      have : ∀ l : List Nat, (∀ k ∈ l, 1 ≤ k ∧ k ≤ 60) → sq l ≤ 60 * 60 * l.length := fun l => by
        induction l with
        | nil => intro _; exact Nat.zero_le _
        | cons a l ih =>
          intro hh
          have i := ih fun k hk => hh k (List.mem_cons_of_mem _ hk)
          have b := (hh a List.mem_cons_self).2
          have c : a * (a - 1) ≤ 60 * 60 := Nat.mul_le_mul b (by omega)
          unfold sq at i ⊢
          rw [List.map_cons, List.sum_cons, List.length_cons]; omega
      exact this cs h
    have e1 : ((cs.sum : Nat) : Int) - 1 = ((cs.sum - 1 : Nat) : Int) := by omega
    have wb : cs.sum * (cs.sum - 1) ≤ 10000 * 10000 := Nat.mul_le_mul hs (by omega)
    have wp : 0 < cs.sum * (cs.sum - 1) := Nat.mul_pos (by omega) (by omega)
    have m2' : mulOk ((cs.sum : Nat) : Int) ((cs.sum - 1 : Nat) : Int) := mulOk_l (by omega) (by omega)
    have e2 : ((cs.sum : Nat) : Int) * ((cs.sum - 1 : Nat) : Int) = ((cs.sum * (cs.sum - 1) : Nat) : Int) := (Int.natCast_mul _ _).symm
    have q := ev_quotient (u := sq cs) (d := cs.sum * (cs.sum - 1)) (up_MB (dn_MB (by omega))) wp (up_MB (dn_MB (by omega)))
    have sq2 : dSum [.list (cs.map fun k => PyData.int ((k * (k - 1) : Nat) : Int))] = some (.int ((sq cs : Nat) : Int)) := sq1
    simp only [G_chance_alike, m_chance_alike, runM, runS, env0, flD, cal, sSeq, sIf, sRet, sRetN, sDrop, sAsg, sOwn, sFrz, frz, sPar, sPar3, sNx, sNo, sBk, sCt, sApp, sExt, sSetIx, sAug, sFor, sWhile, m1, m2, mC, mVar, mLook, mAnd, mOr, mNot, mIte, mB, mV, mTru, dTru, mAndV, mOrV, mNotV, mNil, mCons, mTup, mLst, mF, mFS, mItems, mRng, mRng1, mRng2, mRng3, dRng1, dRng2, dRng3, mEnum, mZip, mCut, mNoP, mPt, mRev, mNeg, dNeg, dRev, dCut, mLc, mYes, pName, pTup, pNil, pCons, wipeS, dAdd, dSub, dMul, dDiv, dMod, dMulI, dAddI, dCmp, dIsN, dNotN, isNone, dLenX, dLen, seqOf, dAbs, dMax2, dMin2, dInt, dTuple, dList, dCatL, dRepL, mSt, mStLen, mStCell, sSt, sSt3, drwGet, drwSet, mCh2, mCh3, mCount, dCount, Option.bind_some, Option.map_some, Option.bind_none, Option.map_none, List.getElem?_cons_zero, List.getElem?_cons_succ, List.set_cons_zero, List.set_cons_succ, List.map_cons, List.map_nil, List.cons_append, List.nil_append, List.replicate_succ, List.replicate_zero, List.length_cons, List.length_nil, if_true, if_false, reduceIte, Bool.false_eq_true, Bool.not_true, Bool.not_false, decide_true, decide_false, cc, sm', c2', hl, if_pos ln, sq2, e1, if_pos m2', e2, q, Nat.zero_add, Nat.reduceAdd]
/-! ### how often each was seen -/
def cntI (cs : List Nat) (k : Int) : Nat := (nD cs).countP fun z => PyData.eqv z (.int k)
theorem dCount_ev (cs : List Nat) (k : Int) : dCount (.tuple (nD cs)) (.int k) = some (.int ((cntI cs k : Nat) : Int)) := if_pos ⟨nD_shp cs, rfl⟩
def rowsD (cs : List Nat) : List PyData := (srtU (cs.map fun k => ((k : Nat) : Int))).map fun k => .tuple [.int k, .int ((cntI cs k : Nat) : Int)]
theorem lc_ints {p : MG} {e : ME} {S : SEnv} {w : Drw} {f : Int → PyData} : ∀ {ks : List Int}, (∀ k ∈ ks, ∃ S1, p (.int k) S = some S1 ∧ e S1 w = some (f k, w)) → lcGo p mYes e S (ks.map .int) w = some (ks.map f, w)
  | [], _ => rfl
  | k :: ks, h => by
    obtain ⟨S1, h1, h2⟩ := h k List.mem_cons_self
    rw [List.map_cons, lcGo_cons, h1, Option.bind_some, show mYes S1 w = some (true, w) from rfl, Option.bind_some, if_pos rfl, h2, Option.bind_some, lc_ints fun x hx => h x (List.mem_cons_of_mem _ hx)]
    rfl
/-- the dict's keys: each once -/
def ksOf (kds : KDs) : List Key := kds.map (·.1)
open Classical in
theorem putD_keys (kds : KDs) (k : Key) (d : PyData) : ksOf (putD kds k d) = if k ∈ ksOf kds then ksOf kds else ksOf kds ++ [k] := by
  unfold putD ksOf
  by_cases h : (kds.any fun p => decide (p.1 = k)) = true
  · rw [if_pos h, if_pos (by
      obtain ⟨p, hp, e⟩ := List.any_eq_true.mp h
      exact List.mem_map.mpr ⟨p, hp, of_decide_eq_true e⟩), List.map_map]
    refine List.map_congr_left fun p _ => ?_
    simp only [Function.comp]
    split <;> rfl
  · rw [if_neg h, if_neg (fun hm => h (by
      obtain ⟨p, hp, e⟩ := List.mem_map.mp hm
      exact List.any_eq_true.mpr ⟨p, hp, decide_eq_true e⟩)), List.map_append]
    rfl
open Classical in
theorem dc_keys {S : SEnv} {w : Drw} (h : S.length = 3) : ∀ (cs : List Nat) (acc : KDs), (∀ p ∈ acc, ∃ i, p.1 = Sum.inl i) → (ksOf acc).Nodup → ∃ kds, dcGo (pName 2) mYes (mVar 2) (mC (.bool true)) S (nD cs) acc w = some (kds, w) ∧ (∀ p ∈ kds, ∃ i, p.1 = Sum.inl i) ∧ (ksOf kds).Nodup ∧ (∀ k, k ∈ ksOf kds ↔ k ∈ ksOf acc ∨ k ∈ cs.map (fun x => (Sum.inl ((x : Nat) : Int) : Key))) ∧ kds.length ≤ acc.length + cs.length
  | [], acc, ha, hn => ⟨acc, rfl, ha, hn, fun k => by simp, by simp⟩
  | x :: cs, acc, ha, hn => by
    obtain ⟨a, b, c, rfl⟩ : ∃ a b c, S = [a, b, c] := by
      match S, h with
      | [a, b, c], _ => exact ⟨a, b, c, rfl⟩
    have ha' : ∀ p ∈ putD acc (Sum.inl ((x : Nat) : Int)) (.bool true), ∃ i, p.1 = Sum.inl i := fun p hp => by
      have hk : p.1 ∈ ksOf (putD acc (Sum.inl ((x : Nat) : Int)) (.bool true)) := List.mem_map.mpr ⟨p, hp, rfl⟩
      rw [putD_keys] at hk
      split at hk
      · obtain ⟨q, hq, e⟩ := List.mem_map.mp hk
        rw [← e]; exact ha q hq
      · rcases List.mem_append.mp hk with hk | hk
        · obtain ⟨q, hq, e⟩ := List.mem_map.mp hk
          rw [← e]; exact ha q hq
        · exact ⟨_, List.mem_singleton.mp hk⟩
    have hn' : (ksOf (putD acc (Sum.inl ((x : Nat) : Int)) (.bool true))).Nodup := by
      rw [putD_keys]
      split
      · exact hn
      · rename_i ne
        exact List.nodup_append.mpr ⟨hn, by simp, fun y hy z hz => by
          rw [List.mem_singleton.mp hz]
          exact fun e => ne (e ▸ hy)⟩
    have hlen : (putD acc (Sum.inl ((x : Nat) : Int)) (.bool true)).length ≤ acc.length + 1 := by
      unfold putD
      split
      · rw [List.length_map]; omega
      · rw [List.length_append]; simp
    obtain ⟨kds, e, h1, h2, h3, h4⟩ := dc_keys (S := [a, b, c]) (w := w) rfl cs _ ha' hn'
    refine ⟨kds, ?_, h1, h2, fun k => ?_, by rw [List.length_cons]; omega⟩
    · rw [← e]
      rfl
    · rw [h3 k, putD_keys, List.map_cons, List.mem_cons]
      split
      · rename_i hm
        constructor
        · rintro (q | q)
          · exact .inl q
          · exact .inr (.inr q)
        · rintro (q | q | q)
          · exact .inl q
          · rw [q]; exact .inl hm
          · exact .inr q
      · rw [List.mem_append, List.mem_singleton]
        constructor
        · rintro ((q | q) | q)
          · exact .inl q
          · exact .inr (.inl q)
          · exact .inr (.inr q)
        · rintro (q | q | q)
          · exact .inl (.inl q)
          · exact .inl (.inr q)
          · exact .inr q
theorem keysI_ev : ∀ {kds : KDs}, (∀ p ∈ kds, ∃ i, p.1 = Sum.inl i) → ∃ ks : List Int, keysI (kds.map fun p => (keyD p.1, p.2)) = some ks ∧ ksOf kds = ks.map Sum.inl
  | [], _ => ⟨[], rfl, rfl⟩
  | (k, d) :: kds, h => by
    obtain ⟨i, hi⟩ := h _ List.mem_cons_self
    obtain ⟨ks, e1, e2⟩ := keysI_ev (kds := kds) fun p hp => h p (List.mem_cons_of_mem _ hp)
    have hi' : k = Sum.inl i := hi
    subst hi'
    refine ⟨i :: ks, ?_, ?_⟩
    · show (keysI (kds.map fun p => (keyD p.1, p.2))).map (i :: ·) = _
      rw [e1]; rfl
    · show Sum.inl i :: ksOf kds = _
      rw [e2]; rfl
theorem ev_often_seen {cs : List Nat} (h1 : 1 ≤ cs.length) (h2 : cs.length ≤ 40) (h : ∀ k ∈ cs, 1 ≤ k ∧ k ≤ 60) : G_often_seen [.tuple (nD cs)] = some (.tuple (rowsD cs)) := by
  have cc := ev_check_counts h1 h2 h
  obtain ⟨kds, e, k1, k2, k3, k4⟩ := dc_keys (S := [.val (.tuple (nD cs)), .no, .no]) (w := w0) rfl cs [] (fun p hp => by cases hp) .nil
  obtain ⟨ks, e1, e2⟩ := keysI_ev k1
  have inj : Function.Injective (Sum.inl : Int → Key) := fun a b hab => Sum.inl.inj hab
  have nd : ks.Nodup := by
    rw [e2] at k2
    have := List.pairwise_map.mp k2
    exact this.imp fun hne e => hne (by rw [e])
  have mem : ∀ i : Int, i ∈ ks ↔ i ∈ cs.map fun k => ((k : Nat) : Int) := fun i => by
    have q := k3 (Sum.inl i)
    rw [e2] at q
    have a1 : (Sum.inl i : Key) ∈ ks.map Sum.inl ↔ i ∈ ks := by
      constructor
      · intro hm; obtain ⟨j, hj, ej⟩ := List.mem_map.mp hm; exact (inj ej) ▸ hj
      · intro hm; exact List.mem_map.mpr ⟨i, hm, rfl⟩
    rw [a1] at q
    rw [q]
    simp only [ksOf, List.map_nil, List.not_mem_nil, false_or, List.mem_map]
    constructor
    · rintro ⟨x, hx, ex⟩; exact ⟨x, hx, inj ex⟩
    · rintro ⟨x, hx, ex⟩; exact ⟨x, hx, by rw [ex]⟩
  have st : srtI ks = srtU (cs.map fun k => ((k : Nat) : Int)) := by
    refine lt_one ?_ (srtU_lt _) fun k => by rw [(srtI_perm ks).mem_iff, srtU_mem, mem]
    have p1 := srtI_le ks
    have p2 : (srtI ks).Nodup := (srtI_perm ks).nodup_iff.mpr nd
    exact (p1.and p2).imp fun ⟨a, b⟩ => by omega
  have kl : ks.length = kds.length := by
    have := congrArg List.length e2
    simp only [ksOf, List.length_map] at this
    omega
  have kne : ks ≠ [] := by
    obtain ⟨x, l, rfl⟩ : ∃ x l, cs = x :: l := by
      cases cs with
      | nil => simp at h1
      | cons x l => exact ⟨x, l, rfl⟩
    intro e0
    have := (mem x).mpr (by simp)
    rw [e0] at this
    cases this
  have c1 : ks ≠ [] ∧ ks.length < 64 := ⟨kne, by simp at k4; omega⟩
  have ds : dSortDI [dictD kds] = some (.list ((srtU (cs.map fun k => ((k : Nat) : Int))).map .int)) := by
    show ((keysI (kds.map fun p => (keyD p.1, p.2))).bind fun ks => if ks ≠ [] ∧ ks.length < 64 then some (PyData.list ((srtI ks).map .int)) else none) = _
    rw [e1, Option.bind_some, if_pos c1, st]
  have hk : kds.length ≤ LB := by show _ ≤ 1000000; simp at k4; omega
  have hl : lcGo (pName 1) mYes (mTup (mCons (mVar 1) (mCons (mCount (mLook 0) (mLook 1)) mNil))) [.val (.tuple (nD cs)), .no, .no] ((srtU (cs.map fun k => ((k : Nat) : Int))).map .int) w0 = some (rowsD cs, w0) := by
    refine lc_ints fun k hk => ⟨_, rfl, ?_⟩
    have l2 : (2 : Nat) ≤ LB := by decide
    simp only [mCount, mTup, mCons, mNil, mVar, mLook, m2, List.set_cons_succ, List.set_cons_zero, List.getElem?_cons_succ, List.getElem?_cons_zero, Option.bind_some, Option.map_some, dCount_ev, List.length_cons, List.length_nil, Nat.zero_add, Nat.reduceAdd, if_pos l2]
  have rl : (rowsD cs).length ≤ LB := by
    unfold rowsD
    rw [List.length_map]
    have := srtU_len (cs.map fun k => ((k : Nat) : Int))
    rw [List.length_map] at this
    show _ ≤ 1000000
    omega
  have md : mDc (mItems (mLook 0)) (pName 2) mYes (mVar 2) (mC (.bool true)) [2] [.val (.tuple (nD cs)), .no, .no] w0 = some (dictD kds, w0) := by
    unfold mDc
    have e' : dcGo (pName 2) mYes (mVar 2) (mC (.bool true)) (wipeS [.val (.tuple (nD cs)), .no, .no] [2]) (nD cs) [] w0 = some (kds, w0) := e
    simp only [mItems, mLook, List.getElem?_cons_zero, Option.bind_some, seqOf, Option.map_some, e', if_pos hk]
  simp only [G_often_seen, m_often_seen, runM, env0, List.map_cons, List.map_nil, List.cons_append, List.nil_append, List.replicate_succ, List.replicate_zero, sSeq, sDrop, sRet, mF, mCons, mNil, mVar, mLc, mItems, List.getElem?_cons_zero, Option.bind_some, Option.map_some, cal, List.length_cons, List.length_nil, Nat.zero_add, if_true, cc, md, ds, seqOf, wipeS, List.set_cons_succ, List.set_cons_zero, hl, if_pos rl, dTuple, flD]
theorem ev_judge {t : Nat} {cs : List Nat} (ht : t ≤ 60) (h1 : 1 ≤ cs.length) (h2 : cs.length ≤ 40) (h : ∀ k ∈ cs, 1 ≤ k ∧ k ≤ 60) : G_judge_counts [.int t, .tuple (nD cs)] = some (if t = cs.sum then .tuple [.str "right"] else .tuple [.str "gap", .int ((t : Int) - (cs.sum : Nat))]) := by
  have c1 := ev_check_coins (i := t) (by omega) (by omega)
  have cc := ev_check_counts h1 h2 h
  have sm := dSum_natsT (fun k => k) cs
  rw [List.map_id'] at sm
  have sm' : dSum [.tuple (nD cs)] = some (.int ((cs.sum : Nat) : Int)) := sm
  have l1 : (1 : Nat) ≤ LB := by decide
  have l2 : (2 : Nat) ≤ LB := by decide
  by_cases e : t = cs.sum
  · have e' : (t : Int) - ((cs.sum : Nat) : Int) = 0 := by omega
    rw [if_pos e]
    simp only [G_judge_counts, m_judge_counts, runM, runS, env0, flD, cal, sSeq, sIf, sRet, sRetN, sDrop, sAsg, sOwn, sFrz, frz, sPar, sPar3, sNx, sNo, sBk, sCt, sApp, sExt, sSetIx, sAug, sFor, sWhile, m1, m2, mC, mVar, mLook, mAnd, mOr, mNot, mIte, mB, mV, mTru, dTru, mAndV, mOrV, mNotV, mNil, mCons, mTup, mLst, mF, mFS, mItems, mRng, mRng1, mRng2, mRng3, dRng1, dRng2, dRng3, mEnum, mZip, mCut, mNoP, mPt, mRev, mNeg, dNeg, dRev, dCut, mLc, mYes, pName, pTup, pNil, pCons, wipeS, dAdd, dSub, dMul, dDiv, dMod, dMulI, dAddI, dCmp, dIsN, dNotN, isNone, dLenX, dLen, seqOf, dAbs, dMax2, dMin2, dInt, dTuple, dList, dCatL, dRepL, mSt, mStLen, mStCell, sSt, sSt3, drwGet, drwSet, mCh2, mCh3, mCount, dCount, Option.bind_some, Option.map_some, Option.bind_none, Option.map_none, List.getElem?_cons_zero, List.getElem?_cons_succ, List.set_cons_zero, List.set_cons_succ, List.map_cons, List.map_nil, List.cons_append, List.nil_append, List.replicate_succ, List.replicate_zero, List.length_cons, List.length_nil, if_true, if_false, reduceIte, Bool.false_eq_true, Bool.not_true, Bool.not_false, decide_true, decide_false, c1, cc, sm', e', dEq_int, Nat.zero_add, Nat.reduceAdd, if_pos l1]
  · have e' : ¬ (t : Int) - ((cs.sum : Nat) : Int) = 0 := by omega
    rw [if_neg e]
    simp only [G_judge_counts, m_judge_counts, runM, runS, env0, flD, cal, sSeq, sIf, sRet, sRetN, sDrop, sAsg, sOwn, sFrz, frz, sPar, sPar3, sNx, sNo, sBk, sCt, sApp, sExt, sSetIx, sAug, sFor, sWhile, m1, m2, mC, mVar, mLook, mAnd, mOr, mNot, mIte, mB, mV, mTru, dTru, mAndV, mOrV, mNotV, mNil, mCons, mTup, mLst, mF, mFS, mItems, mRng, mRng1, mRng2, mRng3, dRng1, dRng2, dRng3, mEnum, mZip, mCut, mNoP, mPt, mRev, mNeg, dNeg, dRev, dCut, mLc, mYes, pName, pTup, pNil, pCons, wipeS, dAdd, dSub, dMul, dDiv, dMod, dMulI, dAddI, dCmp, dIsN, dNotN, isNone, dLenX, dLen, seqOf, dAbs, dMax2, dMin2, dInt, dTuple, dList, dCatL, dRepL, mSt, mStLen, mStCell, sSt, sSt3, drwGet, drwSet, mCh2, mCh3, mCount, dCount, Option.bind_some, Option.map_some, Option.bind_none, Option.map_none, List.getElem?_cons_zero, List.getElem?_cons_succ, List.set_cons_zero, List.set_cons_succ, List.map_cons, List.map_nil, List.cons_append, List.nil_append, List.replicate_succ, List.replicate_zero, List.length_cons, List.length_nil, if_true, if_false, reduceIte, Bool.false_eq_true, Bool.not_true, Bool.not_false, decide_true, decide_false, c1, cc, sm', e', dEq_int, Nat.zero_add, Nat.reduceAdd, if_pos l2]
/-! ### less -/
theorem ev_less {a b c d : Nat} (ha : a ≤ MB) (hb : b ≤ MB) (hc : c ≤ MB) (hd : d ≤ MB) : G_L_is_less [prD a b, prD c d] = some (.bool (decide (a * d < c * b))) := by
  have m1 := mul_MB ha hd
  have m2' := mul_MB hc hb
  have e : decide (((a : Nat) : Int) * (d : Nat) < ((c : Nat) : Int) * (b : Nat)) = decide (a * d < c * b) := by
    rw [← Int.natCast_mul, ← Int.natCast_mul]
    by_cases h : a * d < c * b
    · rw [decide_eq_true h, decide_eq_true (Int.ofNat_lt.mpr h)]
    · rw [decide_eq_false h, decide_eq_false (fun z => h (Int.ofNat_lt.mp z))]
  simp only [G_L_is_less, m_L_is_less, prD, runM, runS, env0, flD, cal, sSeq, sIf, sRet, sRetN, sDrop, sAsg, sOwn, sFrz, frz, sPar, sPar3, sNx, sNo, sBk, sCt, sApp, sExt, sSetIx, sAug, sFor, sWhile, m1, m2, mC, mVar, mLook, mAnd, mOr, mNot, mIte, mB, mV, mTru, dTru, mAndV, mOrV, mNotV, mNil, mCons, mTup, mLst, mF, mFS, mItems, mRng, mRng1, mRng2, mRng3, dRng1, dRng2, dRng3, mEnum, mZip, mCut, mNoP, mPt, mRev, mNeg, dNeg, dRev, dCut, mLc, mYes, pName, pTup, pNil, pCons, wipeS, dAdd, dSub, dMul, dDiv, dMod, dMulI, dAddI, dCmp, dIsN, dNotN, isNone, dLenX, dLen, seqOf, dAbs, dMax2, dMin2, dInt, dTuple, dList, dCatL, dRepL, mSt, mStLen, mStCell, sSt, sSt3, drwGet, drwSet, mCh2, mCh3, mCount, dCount, Option.bind_some, Option.map_some, Option.bind_none, Option.map_none, List.getElem?_cons_zero, List.getElem?_cons_succ, List.set_cons_zero, List.set_cons_succ, List.map_cons, List.map_nil, List.cons_append, List.nil_append, List.replicate_succ, List.replicate_zero, List.length_cons, List.length_nil, if_true, if_false, reduceIte, Bool.false_eq_true, Bool.not_true, Bool.not_false, decide_true, decide_false, ix_pr0, ix_pr1, if_pos m1, if_pos m2', e]
theorem fr_lt {a W b V : Nat} (hW : 0 < W) (hV : 0 < V) : (fU a W * fD b V < fU b V * fD a W) ↔ a * V < b * W := by
  have c1 := fr_cross a W
  have c2 := fr_cross b V
  have p1 := fD_pos (u := a) hW
  have p2 := fD_pos (u := b) hV
  have e1 : fU a W * fD b V * (W * V) = a * V * (fD a W * fD b V) := by
    calc fU a W * fD b V * (W * V) = (fU a W * W) * (fD b V * V) := by ac_rfl
      _ = (a * fD a W) * (fD b V * V) := by rw [c1]
      _ = a * V * (fD a W * fD b V) := by ac_rfl
  have e2 : fU b V * fD a W * (W * V) = b * W * (fD a W * fD b V) := by
    calc fU b V * fD a W * (W * V) = (fU b V * V) * (fD a W * W) := by ac_rfl
      _ = (b * fD b V) * (fD a W * W) := by rw [c2]
      _ = b * W * (fD a W * fD b V) := by ac_rfl
  have q1 : 0 < W * V := Nat.mul_pos hW hV
  have q2 : 0 < fD a W * fD b V := Nat.mul_pos p1 p2
  rw [← Nat.mul_lt_mul_right (a := W * V) q1, e1, e2, Nat.mul_lt_mul_right q2]
theorem ev_less_frac {a W b V : Nat} (hW : 0 < W) (hV : 0 < V) (h1 : a ≤ MB) (h2 : W ≤ MB) (h3 : b ≤ MB) (h4 : V ≤ MB) : G_L_is_less [frac a W, frac b V] = some (.bool (decide (a * V < b * W))) := by
  have e := ev_less (Nat.le_trans (fU_le a W) h1) (Nat.le_trans (fD_le a W) h2) (Nat.le_trans (fU_le b V) h3) (Nat.le_trans (fD_le b V) h4)
  have f := fr_lt (a := a) (b := b) hW hV
  have g : decide (fU a W * fD b V < fU b V * fD a W) = decide (a * V < b * W) := by
    by_cases h : a * V < b * W
    · rw [decide_eq_true h, decide_eq_true (f.mpr h)]
    · rw [decide_eq_false h, decide_eq_false (fun z => h (f.mp z))]
  rw [g] at e
  exact e
/-! ### the drawn counts -/
theorem ev_pick {w : Drw} {n : Nat} (h : w.In n) (hn : n < 2 ^ 60) : ∃ (r : Nat) (w' : Drw), G_L_pick_size [] w = some (.int (r : Nat), w') ∧ 1 ≤ r ∧ r ≤ 7 ∧ w'.In (n + 1) := by
  obtain ⟨k, w1, e, hk, hw⟩ := ev_draw h hn 4 (by decide) (by decide)
  have c4 : ((4 : Nat) : Int) = 4 := rfl
  rw [c4] at e
  have l4 : (4 : Nat) ≤ LB := by decide
  have go : ∀ v : Nat, dIx (.list [.int 1, .int 2, .int 4, .int 7]) (.int (k : Nat)) = some (.int (v : Nat)) → G_L_pick_size [] w = some (.int (v : Nat), w1) := fun v hv => by
    simp only [G_L_pick_size, m_L_pick_size, runM, runS, env0, flD, cal, sSeq, sIf, sRet, sRetN, sDrop, sAsg, sOwn, sFrz, frz, sPar, sPar3, sNx, sNo, sBk, sCt, sApp, sExt, sSetIx, sAug, sFor, sWhile, m1, m2, mC, mVar, mLook, mAnd, mOr, mNot, mIte, mB, mV, mTru, dTru, mAndV, mOrV, mNotV, mNil, mCons, mTup, mLst, mF, mFS, mItems, mRng, mRng1, mRng2, mRng3, dRng1, dRng2, dRng3, mEnum, mZip, mCut, mNoP, mPt, mRev, mNeg, dNeg, dRev, dCut, mLc, mYes, pName, pTup, pNil, pCons, wipeS, dAdd, dSub, dMul, dDiv, dMod, dMulI, dAddI, dCmp, dIsN, dNotN, isNone, dLenX, dLen, seqOf, dAbs, dMax2, dMin2, dInt, dTuple, dList, dCatL, dRepL, mSt, mStLen, mStCell, sSt, sSt3, drwGet, drwSet, mCh2, mCh3, mCount, dCount, Option.bind_some, Option.map_some, Option.bind_none, Option.map_none, List.getElem?_cons_zero, List.getElem?_cons_succ, List.set_cons_zero, List.set_cons_succ, List.map_cons, List.map_nil, List.cons_append, List.nil_append, List.replicate_succ, List.replicate_zero, List.length_cons, List.length_nil, if_true, if_false, reduceIte, Bool.false_eq_true, Bool.not_true, Bool.not_false, decide_true, decide_false, e, Nat.zero_add, Nat.reduceAdd, if_pos l4, hv]
  match k, hk with
  | 0, _ => exact ⟨1, w1, go 1 rfl, by decide, by decide, hw⟩
  | 1, _ => exact ⟨2, w1, go 2 rfl, by decide, by decide, hw⟩
  | 2, _ => exact ⟨4, w1, go 4 rfl, by decide, by decide, hw⟩
  | 3, _ => exact ⟨7, w1, go 7 rfl, by decide, by decide, hw⟩
def Ed (counts whole once rows alike pairs unlike told joined : Sl) : SEnv := [.stt, counts, whole, once, rows, alike, pairs, unlike, told, joined, .no, .no]
theorem counts_draw : ∀ (k : Nat) (lo : Int) {w : Drw} {n : Nat}, w.In n → n + 2 * k < 2 ^ 60 → ∃ (cs : List Nat) (w' : Drw), lcGo (pName 10) mYes (m2 dAdd (mC (.int 1)) (mFS 0 1 G_L_draw (mCons (mFS 0 0 G_L_pick_size mNil) mNil))) (Ed .no .no .no .no .no .no .no .no .no) (rngD lo 1 k) w = some (nD cs, w') ∧ cs.length = k ∧ (∀ x ∈ cs, 1 ≤ x ∧ x ≤ 7) ∧ w'.In (n + 2 * k)
  | 0, lo, w, n, h, _ => ⟨[], w, rfl, rfl, (fun x hx => by cases hx), h⟩
  | k + 1, lo, w, n, h, hn => by
    obtain ⟨s, w1, e1, s1, s2, i1⟩ := ev_pick h (by omega)
    obtain ⟨v, w2, e2, v1, i2⟩ := ev_draw i1 (by omega) s (by omega) (by omega)
    obtain ⟨cs, w3, e3, l3, b3, i3⟩ := counts_draw k (lo + 1) i2 (by omega)
    refine ⟨(1 + v) :: cs, w3, ?_, by rw [List.length_cons, l3], fun x hx => ?_, i3.mono (by omega)⟩
    · rw [rngD_succ, lcGo_cons]
      have z : (1 : Int) + ((v : Nat) : Int) = ((1 + v : Nat) : Int) := by omega
      rw [show pName 10 (.int lo) (Ed .no .no .no .no .no .no .no .no .no) = some ((Ed .no .no .no .no .no .no .no .no .no).set 10 (.val (.int lo))) from rfl, Option.bind_some, show mYes ((Ed .no .no .no .no .no .no .no .no .no).set 10 (.val (.int lo))) w = some (true, w) from rfl, Option.bind_some, if_pos rfl]
      have ee : (m2 dAdd (mC (.int 1)) (mFS 0 1 G_L_draw (mCons (mFS 0 0 G_L_pick_size mNil) mNil))) ((Ed .no .no .no .no .no .no .no .no .no).set 10 (.val (.int lo))) w = some (.int ((1 + v : Nat) : Int), w2) := by
        simp only [Ed, runM, runS, env0, flD, cal, sSeq, sIf, sRet, sRetN, sDrop, sAsg, sOwn, sFrz, frz, sPar, sPar3, sNx, sNo, sBk, sCt, sApp, sExt, sSetIx, sAug, sFor, sWhile, m1, m2, mC, mVar, mLook, mAnd, mOr, mNot, mIte, mB, mV, mTru, dTru, mAndV, mOrV, mNotV, mNil, mCons, mTup, mLst, mF, mFS, mItems, mRng, mRng1, mRng2, mRng3, dRng1, dRng2, dRng3, mEnum, mZip, mCut, mNoP, mPt, mRev, mNeg, dNeg, dRev, dCut, mLc, mYes, pName, pTup, pNil, pCons, wipeS, dAdd, dSub, dMul, dDiv, dMod, dMulI, dAddI, dCmp, dIsN, dNotN, isNone, dLenX, dLen, seqOf, dAbs, dMax2, dMin2, dInt, dTuple, dList, dCatL, dRepL, mSt, mStLen, mStCell, sSt, sSt3, drwGet, drwSet, mCh2, mCh3, mCount, dCount, Option.bind_some, Option.map_some, Option.bind_none, Option.map_none, List.getElem?_cons_zero, List.getElem?_cons_succ, List.set_cons_zero, List.set_cons_succ, List.map_cons, List.map_nil, List.cons_append, List.nil_append, List.replicate_succ, List.replicate_zero, List.length_cons, List.length_nil, if_true, if_false, reduceIte, Bool.false_eq_true, Bool.not_true, Bool.not_false, decide_true, decide_false, e1, e2, Nat.zero_add, z]
      rw [ee, Option.bind_some, e3]
      rfl
    · rcases List.mem_cons.mp hx with e | hx
      · omega
      · exact b3 x hx
/-! ### pairs -/
def unl : List Nat → Nat
  | [] => 0
  | x :: l => x * l.sum + unl l
theorem pairs_id : ∀ cs : List Nat, (∀ x ∈ cs, 1 ≤ x) → cs.sum * (cs.sum - 1) = sq cs + 2 * unl cs
  | [], _ => rfl
  | x :: l, h => by
    have ih := pairs_id l fun y hy => h y (List.mem_cons_of_mem _ hy)
    have hx := h x List.mem_cons_self
    have e1 : sq (x :: l) = x * (x - 1) + sq l := by unfold sq; rw [List.map_cons, List.sum_cons]
    rw [e1, List.sum_cons]
    show (x + l.sum) * (x + l.sum - 1) = x * (x - 1) + sq l + 2 * (x * l.sum + unl l)
    obtain ⟨y, rfl⟩ : ∃ y, x = y + 1 := ⟨x - 1, by omega⟩
    rw [show y + 1 + l.sum - 1 = y + l.sum from by omega, Nat.add_sub_cancel]
    cases hs : l.sum with
    | zero =>
      rw [hs] at ih
      simp only [Nat.zero_mul] at ih
      simp only [Nat.add_zero, Nat.mul_zero]
      grind
    | succ s =>
      rw [hs] at ih
      rw [Nat.add_sub_cancel] at ih
      grind
theorem unl_sum : ∀ cs : List Nat, ((List.range cs.length).map fun k => cs.getD k 0 * (cs.drop (k + 1)).sum).sum = unl cs
  | [] => rfl
  | x :: l => by
    rw [List.length_cons, List.range_succ_eq_map, List.map_cons, List.sum_cons, List.map_map]
    have ih := unl_sum l
    show x * l.sum + _ = x * l.sum + unl l
    rw [← ih]
    rfl
theorem cut_tail {cs : List Nat} {k : Nat} (h : k < cs.length) : Mini.cutD (nD cs) (some ((k : Int) + 1)) none = nD (cs.drop (k + 1)) := by
  unfold Mini.cutD
  rw [HT.sIx_none, show ((k : Int) + 1) = ((k + 1 : Nat) : Int) from by omega, HT.sIx_nat, nD_len, Nat.min_eq_left (by omega)]
  unfold nD
  rw [List.map_drop, List.take_of_length_le (by rw [List.length_drop, List.length_map]; exact Nat.le_refl _)]
theorem sum_le7 {cs : List Nat} (h : ∀ x ∈ cs, 1 ≤ x ∧ x ≤ 7) : cs.length ≤ cs.sum ∧ cs.sum ≤ 7 * cs.length := by
  induction cs with
  | nil => exact ⟨Nat.le_refl _, Nat.le_refl _⟩
  | cons x l ih =>
    obtain ⟨a, b⟩ := ih fun y hy => h y (List.mem_cons_of_mem _ hy)
    obtain ⟨c, d⟩ := h x List.mem_cons_self
    rw [List.length_cons, List.sum_cons]
    omega
theorem okShow_rows {cs : List Nat} (h1 : cs.length ≤ 8) (h : ∀ x ∈ cs, 1 ≤ x ∧ x ≤ 7) : okShow (.tuple (rowsD cs)) = true := by
  have len : (srtU (cs.map fun k => ((k : Nat) : Int))).length ≤ 8 := by
    have := srtU_len (cs.map fun k => ((k : Nat) : Int))
    rw [List.length_map] at this
    omega
  have mem : ∀ k ∈ srtU (cs.map fun k => ((k : Nat) : Int)), k.natAbs.log2 < 1920 := fun k hk => by
    obtain ⟨x, hx, rfl⟩ := List.mem_map.mp ((srtU_mem _ _).mp hk)
    obtain ⟨a, b⟩ := h x hx
    have : (((x : Nat) : Int)).natAbs = x := rfl
    rw [this]
    by_cases z : x = 0
    · omega
    · exact (Nat.log2_lt z).mpr (Nat.lt_of_le_of_lt b (by have : (2 : Nat) ^ 3 ≤ 2 ^ 1920 := Nat.pow_le_pow_right (by decide) (by decide); omega))
  have cnt : ∀ k : Int, (((cntI cs k : Nat) : Int)).natAbs.log2 < 1920 := fun k => by
    have c0 : cntI cs k ≤ 8 := by
      unfold cntI
      exact Nat.le_trans (List.countP_le_length) (by rw [nD_len]; exact h1)
    show (cntI cs k).log2 < 1920
    by_cases z : cntI cs k = 0
    · rw [z]; decide
    · exact (Nat.log2_lt z).mpr (Nat.lt_of_le_of_lt c0 (by have : (2 : Nat) ^ 4 ≤ 2 ^ 1920 := Nat.pow_le_pow_right (by decide) (by decide); omega))
  have all : ∀ ks : List Int, (∀ k ∈ ks, k.natAbs.log2 < 1920) → (ks.map fun k => PyData.tuple [.int k, .int ((cntI cs k : Nat) : Int)]).all (shp 7) = true ∧ PyData.showableAll (ks.map fun k => PyData.tuple [.int k, .int ((cntI cs k : Nat) : Int)]) = true ∧ wtA (ks.map fun k => PyData.tuple [.int k, .int ((cntI cs k : Nat) : Int)]) = ks.length * 3851 := fun ks => by
    induction ks with
    | nil => intro _; exact ⟨rfl, rfl, rfl⟩
    | cons k ks ih =>
      intro hh
      obtain ⟨a, b, e⟩ := ih fun x hx => hh x (List.mem_cons_of_mem _ hx)
      refine ⟨?_, ?_, ?_⟩
      · rw [List.map_cons, List.all_cons, a]; rfl
      · have f1 : PyData.showable (.tuple [.int k, .int ((cntI cs k : Nat) : Int)]) = true := by simp only [PyData.showable, PyData.showableAll, hh k List.mem_cons_self, cnt k, decide_true, Bool.and_self]
        rw [List.map_cons]
        simp only [PyData.showableAll, b, f1, Bool.and_self]
      · have f2 : wt (.tuple [.int k, .int ((cntI cs k : Nat) : Int)]) = 3849 := by simp only [wt, wtA]
        rw [List.map_cons]
        simp only [wtA, e, f2, List.length_cons]
        omega
  obtain ⟨a, b, e⟩ := all _ mem
  have a' : (rowsD cs).all (shp 7) = true := a
  have b' : PyData.showableAll (rowsD cs) = true := b
  have e' : wtA (rowsD cs) = (srtU (cs.map fun k => ((k : Nat) : Int))).length * 3851 := e
  unfold okShow
  simp only [shp, a', PyData.showable, b', wt, e', Bool.true_and, decide_eq_true_eq]
  omega
theorem nD_rev (cs : List Nat) : (nD cs).reverse = nD cs.reverse := List.map_reverse.symm
theorem sq_rev (cs : List Nat) : sq cs.reverse = sq cs := by
  unfold sq
  rw [List.map_reverse, List.sum_reverse]
theorem sq_cons (x : Nat) (l : List Nat) : sq (x :: l) = x * (x - 1) + sq l := by unfold sq; rw [List.map_cons, List.sum_cons]
theorem sq_app (a b : List Nat) : sq (a ++ b) = sq a + sq b := by unfold sq; rw [List.map_append, List.sum_append]
/-- first and last put together -/
def joinL : List Nat → List Nat
  | [] => []
  | [c] => [c + c]
  | c :: d :: l => (c + (d :: l).getLast (List.cons_ne_nil _ _)) :: (d :: l).dropLast
theorem ev_joined {cs : List Nat} (h1 : 1 ≤ cs.length) (h2 : cs.length ≤ 8) {w : Drw} {S : SEnv} (hS : mLook 1 S w = some (.tuple (nD cs), w)) :
    m2 dAdd (mTup (mCons (m2 dAdd (m2 dIx (mLook 1) (mC (.int 0))) (m2 dIx (mLook 1) (mNeg (mC (.int 1))))) mNil)) (mCut (mLook 1) (mPt (mC (.int 1))) (mPt (mNeg (mC (.int 1))))) S w = some (.tuple (nD (joinL cs)), w) := by
  have l1 : (1 : Nat) ≤ LB := by decide
  match cs, h1, hS with
  | [c], _, hS =>
    have a0 : dIx (.tuple (nD [c])) (.int 0) = some (.int (c : Nat)) := rfl
    have a1 : dIx (.tuple (nD [c])) (.int (-1)) = some (.int (c : Nat)) := rfl
    have a2 : Mini.cutD (nD [c]) (some 1) (some (-1)) = [] := rfl
    have l2 : (1 : Nat) + 0 ≤ LB := by decide
    simp only [m2, mTup, mCons, mNil, mC, mNeg, dNeg, mCut, mPt, dCut, hS, Option.bind_some, Option.map_some, a0, a1, dAdd, List.length_cons, List.length_nil, Nat.zero_add, if_pos l1, a2, if_pos l2, joinL]
    rfl
  | c :: d :: l, _, hS =>
    have ne : (d :: l) ≠ [] := List.cons_ne_nil _ _
    obtain ⟨mid, z, e⟩ : ∃ mid z, d :: l = mid ++ [z] := ⟨(d :: l).dropLast, (d :: l).getLast ne, (List.dropLast_concat_getLast ne).symm⟩
    have e1 : (d :: l).getLast ne = z := by simp only [e, List.getLast_concat]
    have e2 : (d :: l).dropLast = mid := by rw [e, List.dropLast_concat]
    have ej : joinL (c :: d :: l) = (c + z) :: mid := by
      show (c + (d :: l).getLast ne) :: (d :: l).dropLast = _
      rw [e1, e2]
    have en : nD (c :: d :: l) = (.int (c : Nat) :: nD mid) ++ [.int (z : Nat)] := by
      rw [e]; unfold nD; simp
    have hl : mid.length + 2 ≤ 8 := by
      have := congrArg List.length e
      simp only [List.length_append, List.length_cons, List.length_nil] at this h2
      omega
    have a0 : dIx (.tuple (nD (c :: d :: l))) (.int 0) = some (.int (c : Nat)) := ixT_nat (k := 0) (by simp [nD])
    have a1 : dIx (.tuple (nD (c :: d :: l))) (.int (-1)) = some (.int (z : Nat)) := by rw [en]; exact ixT_last
    have a2 : Mini.cutD (nD (c :: d :: l)) (some 1) (some (-1)) = nD mid := by
      rw [en]
      have ml : (nD mid).length = mid.length := nD_len mid
      unfold Mini.cutD
      have s1 : HT.sIx ((PyData.int (c : Nat) :: nD mid) ++ [PyData.int (z : Nat)]).length 0 (some 1) = 1 := by
        have := HT.sIx_nat ((PyData.int (c : Nat) :: nD mid) ++ [PyData.int (z : Nat)]).length 0 1
        rw [show (((1 : Nat) : Int)) = 1 from rfl] at this
        rw [this, Nat.min_eq_left (by simp)]
      have s2 : HT.sIx ((PyData.int (c : Nat) :: nD mid) ++ [PyData.int (z : Nat)]).length ((PyData.int (c : Nat) :: nD mid) ++ [PyData.int (z : Nat)]).length (some (-1)) = mid.length + 1 := by
        unfold HT.sIx
        dsimp only
        rw [if_pos (by decide)]
        simp only [List.length_append, List.length_cons, List.length_nil, ml]
        omega
      rw [s1, s2]
      show List.take (mid.length + 1 - 1) (nD mid ++ [PyData.int (z : Nat)]) = nD mid
      rw [Nat.add_sub_cancel, ← ml, List.take_left]
    have l2 : (1 : Nat) + (nD mid).length ≤ LB := by rw [nD_len]; show _ ≤ 1000000; omega
    have ez : ((c : Nat) : Int) + ((z : Nat) : Int) = ((c + z : Nat) : Int) := by omega
    rw [ej]
    simp only [m2, mTup, mCons, mNil, mC, mNeg, dNeg, mCut, mPt, dCut, hS, Option.bind_some, Option.map_some, a0, a1, dAdd, List.length_cons, List.length_nil, Nat.zero_add, if_pos l1, a2, if_pos l2, ez]
    rfl
theorem joinL_facts {cs : List Nat} (h1 : 2 ≤ cs.length) (h : ∀ x ∈ cs, 1 ≤ x ∧ x ≤ 7) : (joinL cs).sum = cs.sum ∧ sq cs ≤ sq (joinL cs) ∧ 1 ≤ (joinL cs).length ∧ (joinL cs).length ≤ cs.length ∧ ∀ x ∈ joinL cs, 1 ≤ x ∧ x ≤ 60 := by
  match cs, h1, h with
  | c :: d :: l, _, h =>
    have ne : (d :: l) ≠ [] := List.cons_ne_nil _ _
    obtain ⟨mid, z, e⟩ : ∃ mid z, d :: l = mid ++ [z] := ⟨(d :: l).dropLast, (d :: l).getLast ne, (List.dropLast_concat_getLast ne).symm⟩
    have e1 : (d :: l).getLast ne = z := by simp only [e, List.getLast_concat]
    have e2 : (d :: l).dropLast = mid := by rw [e, List.dropLast_concat]
    have ej : joinL (c :: d :: l) = (c + z) :: mid := by
      show (c + (d :: l).getLast ne) :: (d :: l).dropLast = _
      rw [e1, e2]
    rw [ej]
    rw [e] at h ⊢
    obtain ⟨hc1, hc2⟩ := h c List.mem_cons_self
    obtain ⟨hz1, hz2⟩ := h z (by simp)
    refine ⟨?_, ?_, by simp, by simp, fun x hx => ?_⟩
    · simp only [List.sum_cons, List.sum_append, List.sum_nil]; omega
    · rw [sq_cons, sq_cons, sq_app, sq_cons]
      have z0 : sq [] = 0 := rfl
      rw [z0]
      obtain ⟨a, rfl⟩ : ∃ a, c = a + 1 := ⟨c - 1, by omega⟩
      obtain ⟨b, rfl⟩ : ∃ b, z = b + 1 := ⟨z - 1, by omega⟩
      rw [Nat.add_sub_cancel, Nat.add_sub_cancel, show a + 1 + (b + 1) - 1 = a + b + 1 from by omega]
      have : (a + 1 + (b + 1)) * (a + b + 1) = (a + 1) * a + (b + 1) * b + (2 * (a * b) + 2 * a + 2 * b + 2) := by grind
      omega
    · rcases List.mem_cons.mp hx with q | q
      · omega
      · obtain ⟨p1, p2⟩ := h x (by simp [q])
        omega
theorem dIsN_if {c : Prop} [Decidable c] {a b : PyData} : (if c then a else b) = if c then a else b := rfl
theorem ev_counts_hold {w : Drw} {n : Nat} (h : w.In n) (hn : n + 40 < 2 ^ 60) : ∃ w', G_L_counts_hold [] w = some (.bool true, w') ∧ w'.In (n + 20) := by
  obtain ⟨k, w1, e1, k8, i1⟩ := ev_draw h (by omega) 8 (by decide) (by decide)
  have c8 : ((8 : Nat) : Int) = 8 := rfl
  rw [c8] at e1
  obtain ⟨cs, w2, e2, len, bnd, i2⟩ := counts_draw (1 + k) 0 i1 (by omega)
  have h1 : 1 ≤ cs.length := by omega
  have h8 : cs.length ≤ 8 := by omega
  have b60 : ∀ x ∈ cs, 1 ≤ x ∧ x ≤ 60 := fun x hx => by have := bnd x hx; omega
  obtain ⟨s1, s2⟩ := sum_le7 bnd
  have hs : cs.sum ≤ 10000 := by omega
  have hp : 0 < cs.sum := by omega
  have cov := ev_coverage h1 (by omega) b60 hs hp
  have oft := ev_often_seen h1 (by omega) b60
  have alk := ev_chance_alike h1 (by omega) b60 hs
  have l2 : (2 : Nat) ≤ LB := by decide
  have l1 : (1 : Nat) ≤ LB := by decide
  have ck : (1 : Int) + ((k : Nat) : Int) = ((1 + k : Nat) : Int) := by omega
  have smk := smallI_of (i := ((1 + k : Nat) : Int)) (by omega) (by omega)
  have tnk : (((1 + k : Nat) : Int)).toNat = 1 + k := by omega
  have ln : (nD cs).length ≤ LB := by rw [nD_len]; show _ ≤ 1000000; omega
  have sm := dSum_natsT (fun k => k) cs
  rw [List.map_id'] at sm
  have sm' : dSum [.tuple (nD cs)] = some (.int ((cs.sum : Nat) : Int)) := sm
  let one := (cs.filter (· == 1)).length
  have fl : one ≤ cs.length := List.length_filter_le (· == 1) cs
  unfold G_L_counts_hold runS m_L_counts_hold
  have gS0 : (.stt :: env0 11 [] : SEnv) = Ed .no .no .no .no .no .no .no .no .no := rfl
  rw [gS0]
  -- counts
  rw [seq_nx (S1 := Ed (.val (.tuple (nD cs))) .no .no .no .no .no .no .no .no) (w1 := w2) (by
    have rg : mRng1 (mCons (m2 dAdd (mC (.int 1)) (mFS 0 1 G_L_draw (mCons (mC (.int 8)) mNil))) mNil) (Ed .no .no .no .no .no .no .no .no .no) w = some (rngD 0 1 (1 + k), w1) := by simp only [Ed, runM, runS, env0, flD, cal, sSeq, sIf, sRet, sRetN, sDrop, sAsg, sOwn, sFrz, frz, sPar, sPar3, sNx, sNo, sBk, sCt, sApp, sExt, sSetIx, sAug, sFor, sWhile, m1, m2, mC, mVar, mLook, mAnd, mOr, mNot, mIte, mB, mV, mTru, dTru, mAndV, mOrV, mNotV, mNil, mCons, mTup, mLst, mF, mFS, mItems, mRng, mRng1, mRng2, mRng3, dRng1, dRng2, dRng3, mEnum, mZip, mCut, mNoP, mPt, mRev, mNeg, dNeg, dRev, dCut, mLc, mYes, pName, pTup, pNil, pCons, wipeS, dAdd, dSub, dMul, dDiv, dMod, dMulI, dAddI, dCmp, dIsN, dNotN, isNone, dLenX, dLen, seqOf, dAbs, dMax2, dMin2, dInt, dTuple, dList, dCatL, dRepL, mSt, mStLen, mStCell, sSt, sSt3, drwGet, drwSet, mCh2, mCh3, mCount, dCount, Option.bind_some, Option.map_some, Option.bind_none, Option.map_none, List.getElem?_cons_zero, List.getElem?_cons_succ, List.set_cons_zero, List.set_cons_succ, List.map_cons, List.map_nil, List.cons_append, List.nil_append, List.replicate_succ, List.replicate_zero, List.length_cons, List.length_nil, if_true, if_false, reduceIte, Bool.false_eq_true, Bool.not_true, Bool.not_false, decide_true, decide_false, e1, Nat.zero_add, ck, if_pos smk, tnk]
    have lc : mLc (mRng1 (mCons (m2 dAdd (mC (.int 1)) (mFS 0 1 G_L_draw (mCons (mC (.int 8)) mNil))) mNil)) (pName 10) mYes (m2 dAdd (mC (.int 1)) (mFS 0 1 G_L_draw (mCons (mFS 0 0 G_L_pick_size mNil) mNil))) [10] (Ed .no .no .no .no .no .no .no .no .no) w = some (.list (nD cs), w2) := by
      unfold mLc
      rw [rg, Option.bind_some]
      show ((lcGo _ _ _ (Ed .no .no .no .no .no .no .no .no .no) (rngD 0 1 (1 + k)) w1).bind _) = _
      rw [e2, Option.bind_some, if_pos ln]
    simp only [sAsg, mF, mCons, mNil, lc, Option.bind_some, Option.map_some, dTuple, pName]
    rfl)]
  -- whole
  rw [seq_nx (S1 := Ed (.val (.tuple (nD cs))) (.val (.int ((cs.sum : Nat) : Int))) .no .no .no .no .no .no .no) (w1 := w2) (by simp only [Ed, runM, runS, env0, flD, cal, sSeq, sIf, sRet, sRetN, sDrop, sAsg, sOwn, sFrz, frz, sPar, sPar3, sNx, sNo, sBk, sCt, sApp, sExt, sSetIx, sAug, sFor, sWhile, m1, m2, mC, mVar, mLook, mAnd, mOr, mNot, mIte, mB, mV, mTru, dTru, mAndV, mOrV, mNotV, mNil, mCons, mTup, mLst, mF, mFS, mItems, mRng, mRng1, mRng2, mRng3, dRng1, dRng2, dRng3, mEnum, mZip, mCut, mNoP, mPt, mRev, mNeg, dNeg, dRev, dCut, mLc, mYes, pName, pTup, pNil, pCons, wipeS, dAdd, dSub, dMul, dDiv, dMod, dMulI, dAddI, dCmp, dIsN, dNotN, isNone, dLenX, dLen, seqOf, dAbs, dMax2, dMin2, dInt, dTuple, dList, dCatL, dRepL, mSt, mStLen, mStCell, sSt, sSt3, drwGet, drwSet, mCh2, mCh3, mCount, dCount, Option.bind_some, Option.map_some, Option.bind_none, Option.map_none, List.getElem?_cons_zero, List.getElem?_cons_succ, List.set_cons_zero, List.set_cons_succ, List.map_cons, List.map_nil, List.cons_append, List.nil_append, List.replicate_succ, List.replicate_zero, List.length_cons, List.length_nil, if_true, if_false, reduceIte, Bool.false_eq_true, Bool.not_true, Bool.not_false, decide_true, decide_false, sm'])]
  -- once, rows
  have lc1 : ∀ (a b c d e f g i : Sl) (w : Drw), lcGo (pName 10) (mB (m2 dEq (mLook 10) (mC (.int 1)))) (mVar 10) (Ed a b c d e f g i .no) (nD cs) w = some (nD (cs.filter (· == 1)), w) := fun a b c d e f g i w => by
    have e := lc_filter (p := pName 10) (t := mB (m2 dEq (mLook 10) (mC (.int 1)))) (e := mVar 10) (S := Ed a b c d e f g i .no) (w := w) (f := fun d => d) (c := fun d => PyData.eqv d (.int 1)) (ds := nD cs) (fun d hd => by
      obtain ⟨k, _, rfl⟩ := List.mem_map.mp hd
      refine ⟨_, rfl, ?_, fun _ => rfl⟩
      have e0 : decide (((k : Nat) : Int) = 1) = (((k : Nat) : Int) == 1) := by by_cases e : ((k : Nat) : Int) = 1 <;> simp [e]
      simp only [Ed, runM, runS, env0, flD, cal, sSeq, sIf, sRet, sRetN, sDrop, sAsg, sOwn, sFrz, frz, sPar, sPar3, sNx, sNo, sBk, sCt, sApp, sExt, sSetIx, sAug, sFor, sWhile, m1, m2, mC, mVar, mLook, mAnd, mOr, mNot, mIte, mB, mV, mTru, dTru, mAndV, mOrV, mNotV, mNil, mCons, mTup, mLst, mF, mFS, mItems, mRng, mRng1, mRng2, mRng3, dRng1, dRng2, dRng3, mEnum, mZip, mCut, mNoP, mPt, mRev, mNeg, dNeg, dRev, dCut, mLc, mYes, pName, pTup, pNil, pCons, wipeS, dAdd, dSub, dMul, dDiv, dMod, dMulI, dAddI, dCmp, dIsN, dNotN, isNone, dLenX, dLen, seqOf, dAbs, dMax2, dMin2, dInt, dTuple, dList, dCatL, dRepL, mSt, mStLen, mStCell, sSt, sSt3, drwGet, drwSet, mCh2, mCh3, mCount, dCount, Option.bind_some, Option.map_some, Option.bind_none, Option.map_none, List.getElem?_cons_zero, List.getElem?_cons_succ, List.set_cons_zero, List.set_cons_succ, List.map_cons, List.map_nil, List.cons_append, List.nil_append, List.replicate_succ, List.replicate_zero, List.length_cons, List.length_nil, if_true, if_false, reduceIte, Bool.false_eq_true, Bool.not_true, Bool.not_false, decide_true, decide_false, dEq_int, eqv_int, e0])
    rw [e]
    congr 2
    rw [List.map_id']
    unfold nD
    rw [List.filter_map]
    congr 1
    refine List.filter_congr fun k _ => ?_
    show PyData.eqv (.int ((k : Nat) : Int)) (.int 1) = _
    rw [eqv_int]
    by_cases e : k = 1
    · subst e; rfl
    · have e2 : ((k : Nat) : Int) ≠ 1 := by omega
      exact (beq_false_of_ne e2).trans (beq_false_of_ne e).symm
  have ln1 : (nD (cs.filter (· == 1))).length ≤ LB := by rw [nD_len]; show one ≤ 1000000; omega
  have dl1 : dLenX [.list (nD (cs.filter (· == 1)))] = some (.int ((one : Nat) : Int)) := by
    show some (PyData.int ((nD (cs.filter (· == 1))).length : Nat)) = _
    rw [nD_len]
  have srt : ∀ (S : SEnv) (w : Drw), mLook 1 S w = some (.tuple (nD cs), w) → mSortedSet (mLook 1) S w = some (.list ((srtU (cs.map fun k => ((k : Nat) : Int))).map .int), w) := fun S w hS => by
    have ii : intsOf (nD cs) = some (cs.map fun k => ((k : Nat) : Int)) := by
      have : nD cs = (cs.map fun k => ((k : Nat) : Int)).map .int := by unfold nD; rw [List.map_map]; rfl
      rw [this, intsOf_map]
    have l64 : (cs.map fun k => ((k : Nat) : Int)).length < 64 := by rw [List.length_map]; omega
    unfold mSortedSet
    rw [hS, Option.bind_some]
    show ((intsOf (nD cs)).bind _) = _
    rw [ii, Option.bind_some, if_pos l64]
  rw [seq_nx (S1 := Ed (.val (.tuple (nD cs))) (.val (.int ((cs.sum : Nat) : Int))) (.val (.int ((one : Nat) : Int))) (.val (.list ((srtU (cs.map fun k => ((k : Nat) : Int))).map .int))) .no .no .no .no .no) (w1 := w2) (by
    have sr := srt (Ed (.val (.tuple (nD cs))) (.val (.int ((cs.sum : Nat) : Int))) .no .no .no .no .no .no .no) w2 rfl
    have q := lc1 (.val (.tuple (nD cs))) (.val (.int ((cs.sum : Nat) : Int))) .no .no .no .no .no .no w2
    simp only [Ed] at sr q
    simp only [Ed, runM, runS, env0, flD, cal, sSeq, sIf, sRet, sRetN, sDrop, sAsg, sOwn, sFrz, frz, sPar, sPar3, sNx, sNo, sBk, sCt, sApp, sExt, sSetIx, sAug, sFor, sWhile, m1, m2, mC, mVar, mLook, mAnd, mOr, mNot, mIte, mB, mV, mTru, dTru, mAndV, mOrV, mNotV, mNil, mCons, mTup, mLst, mF, mFS, mItems, mRng, mRng1, mRng2, mRng3, dRng1, dRng2, dRng3, mEnum, mZip, mCut, mNoP, mPt, mRev, mNeg, dNeg, dRev, dCut, mLc, mYes, pName, pTup, pNil, pCons, wipeS, dAdd, dSub, dMul, dDiv, dMod, dMulI, dAddI, dCmp, dIsN, dNotN, isNone, dLenX, dLen, seqOf, dAbs, dMax2, dMin2, dInt, dTuple, dList, dCatL, dRepL, mSt, mStLen, mStCell, sSt, sSt3, drwGet, drwSet, mCh2, mCh3, mCount, dCount, Option.bind_some, Option.map_some, Option.bind_none, Option.map_none, List.getElem?_cons_zero, List.getElem?_cons_succ, List.set_cons_zero, List.set_cons_succ, List.map_cons, List.map_nil, List.cons_append, List.nil_append, List.replicate_succ, List.replicate_zero, List.length_cons, List.length_nil, if_true, if_false, reduceIte, Bool.false_eq_true, Bool.not_true, Bool.not_false, decide_true, decide_false, q, if_pos ln1, dl1, sr]
    rw [nD_len])]
  -- the first test
  have q1 := ev_L_quotient (u := cs.sum - one) (d := cs.sum) (up_MB (dn_MB (by omega))) hp (up_MB (dn_MB (by omega)))
  have z1 : ((cs.sum : Nat) : Int) - ((one : Nat) : Int) = ((cs.sum - one : Nat) : Int) := by omega
  have n1 : dNe (frac (cs.sum - one) cs.sum) (frac (cs.sum - one) cs.sum) = some (.bool false) := dNe_refl rfl
  have same := ev_same (okShow_rows h8 bnd)
  have rl : (rowsD cs).length ≤ LB := by
    unfold rowsD
    rw [List.length_map]
    have := srtU_len (cs.map fun k => ((k : Nat) : Int))
    rw [List.length_map] at this
    show _ ≤ 1000000
    omega
  rw [seq_nx (if_no (w1 := w2) (by
    have hl : mLc (mItems (mLook 4)) (pName 10) mYes (mTup (mCons (mVar 10) (mCons (mCount (mLook 1) (mLook 10)) mNil))) [10] (Ed (.val (.tuple (nD cs))) (.val (.int ((cs.sum : Nat) : Int))) (.val (.int ((one : Nat) : Int))) (.val (.list ((srtU (cs.map fun k => ((k : Nat) : Int))).map .int))) .no .no .no .no .no) w2 = some (.list (rowsD cs), w2) := by
      unfold mLc
      show ((lcGo (pName 10) mYes _ (Ed (.val (.tuple (nD cs))) (.val (.int ((cs.sum : Nat) : Int))) (.val (.int ((one : Nat) : Int))) (.val (.list ((srtU (cs.map fun k => ((k : Nat) : Int))).map .int))) .no .no .no .no .no) ((srtU (cs.map fun k => ((k : Nat) : Int))).map .int) w2).bind _) = _
      rw [lc_ints (f := fun k => .tuple [.int k, .int ((cntI cs k : Nat) : Int)]) fun k hk => ⟨_, rfl, by
        simp only [Ed, mCount, mTup, mCons, mNil, mVar, mLook, m2, List.set_cons_succ, List.set_cons_zero, List.getElem?_cons_succ, List.getElem?_cons_zero, Option.bind_some, Option.map_some, dCount_ev, List.length_cons, List.length_nil, Nat.zero_add, Nat.reduceAdd, if_pos l2]⟩, Option.bind_some]
      exact if_pos rl
    have v1 : ∀ (S : SEnv), mVar 1 S w2 = mVar 1 S w2 := fun _ => rfl
    have t1 : mB (m2 dNe (mF (cal 1 G_coverage) (mCons (mVar 1) mNil)) (mF (cal 2 G_L_quotient) (mCons (m2 dSub (mLook 2) (mLook 3)) (mCons (mVar 2) mNil)))) (Ed (.val (.tuple (nD cs))) (.val (.int ((cs.sum : Nat) : Int))) (.val (.int ((one : Nat) : Int))) (.val (.list ((srtU (cs.map fun k => ((k : Nat) : Int))).map .int))) .no .no .no .no .no) w2 = some (false, w2) := by
      simp only [Ed, runM, runS, env0, flD, cal, sSeq, sIf, sRet, sRetN, sDrop, sAsg, sOwn, sFrz, frz, sPar, sPar3, sNx, sNo, sBk, sCt, sApp, sExt, sSetIx, sAug, sFor, sWhile, m1, m2, mC, mVar, mLook, mAnd, mOr, mNot, mIte, mB, mV, mTru, dTru, mAndV, mOrV, mNotV, mNil, mCons, mTup, mLst, mF, mFS, mItems, mRng, mRng1, mRng2, mRng3, dRng1, dRng2, dRng3, mEnum, mZip, mCut, mNoP, mPt, mRev, mNeg, dNeg, dRev, dCut, mLc, mYes, pName, pTup, pNil, pCons, wipeS, dAdd, dSub, dMul, dDiv, dMod, dMulI, dAddI, dCmp, dIsN, dNotN, isNone, dLenX, dLen, seqOf, dAbs, dMax2, dMin2, dInt, dTuple, dList, dCatL, dRepL, mSt, mStLen, mStCell, sSt, sSt3, drwGet, drwSet, mCh2, mCh3, mCount, dCount, Option.bind_some, Option.map_some, Option.bind_none, Option.map_none, List.getElem?_cons_zero, List.getElem?_cons_succ, List.set_cons_zero, List.set_cons_succ, List.map_cons, List.map_nil, List.cons_append, List.nil_append, List.replicate_succ, List.replicate_zero, List.length_cons, List.length_nil, if_true, if_false, reduceIte, Bool.false_eq_true, Bool.not_true, Bool.not_false, decide_true, decide_false, cov, z1, Nat.zero_add, Nat.reduceAdd]
      rw [show (frac (cs.sum - (cs.filter fun x => x == 1).length) cs.sum) = frac (cs.sum - one) cs.sum from rfl]
      simp only [q1, runM, runS, env0, flD, cal, sSeq, sIf, sRet, sRetN, sDrop, sAsg, sOwn, sFrz, frz, sPar, sPar3, sNx, sNo, sBk, sCt, sApp, sExt, sSetIx, sAug, sFor, sWhile, m1, m2, mC, mVar, mLook, mAnd, mOr, mNot, mIte, mB, mV, mTru, dTru, mAndV, mOrV, mNotV, mNil, mCons, mTup, mLst, mF, mFS, mItems, mRng, mRng1, mRng2, mRng3, dRng1, dRng2, dRng3, mEnum, mZip, mCut, mNoP, mPt, mRev, mNeg, dNeg, dRev, dCut, mLc, mYes, pName, pTup, pNil, pCons, wipeS, dAdd, dSub, dMul, dDiv, dMod, dMulI, dAddI, dCmp, dIsN, dNotN, isNone, dLenX, dLen, seqOf, dAbs, dMax2, dMin2, dInt, dTuple, dList, dCatL, dRepL, mSt, mStLen, mStCell, sSt, sSt3, drwGet, drwSet, mCh2, mCh3, mCount, dCount, Option.bind_some, Option.map_some, Option.bind_none, Option.map_none, List.getElem?_cons_zero, List.getElem?_cons_succ, List.set_cons_zero, List.set_cons_succ, List.map_cons, List.map_nil, List.cons_append, List.nil_append, List.replicate_succ, List.replicate_zero, List.length_cons, List.length_nil, if_true, if_false, reduceIte, Bool.false_eq_true, Bool.not_true, Bool.not_false, decide_true, decide_false, n1]
    have t2 : mNot (mTru (mF (cal 2 G_L_same) (mCons (mF (cal 1 G_often_seen) (mCons (mVar 1) mNil)) (mCons (mF dTuple (mCons (mLc (mItems (mLook 4)) (pName 10) mYes (mTup (mCons (mVar 10) (mCons (mCount (mLook 1) (mLook 10)) mNil))) [10]) mNil)) mNil)))) (Ed (.val (.tuple (nD cs))) (.val (.int ((cs.sum : Nat) : Int))) (.val (.int ((one : Nat) : Int))) (.val (.list ((srtU (cs.map fun k => ((k : Nat) : Int))).map .int))) .no .no .no .no .no) w2 = some (false, w2) := by
      have v : mVar 1 (Ed (.val (.tuple (nD cs))) (.val (.int ((cs.sum : Nat) : Int))) (.val (.int ((one : Nat) : Int))) (.val (.list ((srtU (cs.map fun k => ((k : Nat) : Int))).map .int))) .no .no .no .no .no) w2 = some (.tuple (nD cs), w2) := rfl
      simp only [mNot, mTru, mF, mCons, mNil, v, hl, Option.bind_some, Option.map_some, cal, List.length_cons, List.length_nil, Nat.zero_add, Nat.reduceAdd, if_true, oft, dTuple, same, dTru, Bool.not_true]
    unfold mOr
    rw [t1, Option.bind_some]
    exact t2))]
  -- alike
  let Ro : Sl := .val (.list ((srtU (cs.map fun k => ((k : Nat) : Int))).map .int))
  let Al : PyData := if cs.sum < 2 then .none else frac (sq cs) (cs.sum * (cs.sum - 1))
  rw [seq_nx (S1 := Ed (.val (.tuple (nD cs))) (.val (.int ((cs.sum : Nat) : Int))) (.val (.int ((one : Nat) : Int))) Ro (.val Al) .no .no .no .no) (w1 := w2) (by simp only [Ed, runM, runS, env0, flD, cal, sSeq, sIf, sRet, sRetN, sDrop, sAsg, sOwn, sFrz, frz, sPar, sPar3, sNx, sNo, sBk, sCt, sApp, sExt, sSetIx, sAug, sFor, sWhile, m1, m2, mC, mVar, mLook, mAnd, mOr, mNot, mIte, mB, mV, mTru, dTru, mAndV, mOrV, mNotV, mNil, mCons, mTup, mLst, mF, mFS, mItems, mRng, mRng1, mRng2, mRng3, dRng1, dRng2, dRng3, mEnum, mZip, mCut, mNoP, mPt, mRev, mNeg, dNeg, dRev, dCut, mLc, mYes, pName, pTup, pNil, pCons, wipeS, dAdd, dSub, dMul, dDiv, dMod, dMulI, dAddI, dCmp, dIsN, dNotN, isNone, dLenX, dLen, seqOf, dAbs, dMax2, dMin2, dInt, dTuple, dList, dCatL, dRepL, mSt, mStLen, mStCell, sSt, sSt3, drwGet, drwSet, mCh2, mCh3, mCount, dCount, Option.bind_some, Option.map_some, Option.bind_none, Option.map_none, List.getElem?_cons_zero, List.getElem?_cons_succ, List.set_cons_zero, List.set_cons_succ, List.map_cons, List.map_nil, List.cons_append, List.nil_append, List.replicate_succ, List.replicate_zero, List.length_cons, List.length_nil, if_true, if_false, reduceIte, Bool.false_eq_true, Bool.not_true, Bool.not_false, decide_true, decide_false, alk, Nat.zero_add, Nat.reduceAdd]; rfl)]
  have e1' : ((cs.sum : Nat) : Int) - 1 = ((cs.sum - 1 : Nat) : Int) := by omega
  have mw : mulOk ((cs.sum : Nat) : Int) ((cs.sum - 1 : Nat) : Int) := mulOk_l (by omega) (by omega)
  have e2' : ((cs.sum : Nat) : Int) * ((cs.sum - 1 : Nat) : Int) = ((cs.sum * (cs.sum - 1) : Nat) : Int) := (Int.natCast_mul _ _).symm
  have dv2 : (0 : Int) < 2 ∧ (2 : Int).natAbs < bigN := ⟨by decide, bigZ_nat (by decide) (small_bigZ (by decide))⟩
  have pr := pairs_id cs fun x hx => (bnd x hx).1
  have evn : cs.sum * (cs.sum - 1) = 2 * (cs.sum * (cs.sum - 1) / 2) := by
    have h2 : cs.sum * (cs.sum - 1) % 2 = 0 := by
      rcases Nat.mod_two_eq_zero_or_one cs.sum with z | z
      · rw [Nat.mul_mod, z, Nat.zero_mul]
      · have : (cs.sum - 1) % 2 = 0 := by omega
        rw [Nat.mul_mod, this, Nat.mul_zero]
    omega
  obtain ⟨P, hP⟩ : ∃ P, P = cs.sum * (cs.sum - 1) / 2 := ⟨_, rfl⟩
  rw [← hP] at evn
  have cP : ((cs.sum * (cs.sum - 1) : Nat) : Int) / 2 = ((P : Nat) : Int) := by rw [hP]; omega
  rw [seq_nx (S1 := Ed (.val (.tuple (nD cs))) (.val (.int ((cs.sum : Nat) : Int))) (.val (.int ((one : Nat) : Int))) Ro (.val Al) (.val (.int (P : Nat))) .no .no .no) (w1 := w2) (by simp only [Ed, runM, runS, env0, flD, cal, sSeq, sIf, sRet, sRetN, sDrop, sAsg, sOwn, sFrz, frz, sPar, sPar3, sNx, sNo, sBk, sCt, sApp, sExt, sSetIx, sAug, sFor, sWhile, m1, m2, mC, mVar, mLook, mAnd, mOr, mNot, mIte, mB, mV, mTru, dTru, mAndV, mOrV, mNotV, mNil, mCons, mTup, mLst, mF, mFS, mItems, mRng, mRng1, mRng2, mRng3, dRng1, dRng2, dRng3, mEnum, mZip, mCut, mNoP, mPt, mRev, mNeg, dNeg, dRev, dCut, mLc, mYes, pName, pTup, pNil, pCons, wipeS, dAdd, dSub, dMul, dDiv, dMod, dMulI, dAddI, dCmp, dIsN, dNotN, isNone, dLenX, dLen, seqOf, dAbs, dMax2, dMin2, dInt, dTuple, dList, dCatL, dRepL, mSt, mStLen, mStCell, sSt, sSt3, drwGet, drwSet, mCh2, mCh3, mCount, dCount, Option.bind_some, Option.map_some, Option.bind_none, Option.map_none, List.getElem?_cons_zero, List.getElem?_cons_succ, List.set_cons_zero, List.set_cons_succ, List.map_cons, List.map_nil, List.cons_append, List.nil_append, List.replicate_succ, List.replicate_zero, List.length_cons, List.length_nil, if_true, if_false, reduceIte, Bool.false_eq_true, Bool.not_true, Bool.not_false, decide_true, decide_false, e1', if_pos mw, e2', if_pos dv2, cP])]
  by_cases c2 : cs.sum < 2
  · -- one coin alone
    have c2' : ((cs.sum : Nat) : Int) < 2 := by omega
    have ea : Al = .none := if_pos c2
    refine ⟨w2, ?_, i2.mono (by omega)⟩
    simp only [Ed, runM, runS, env0, flD, cal, sSeq, sIf, sRet, sRetN, sDrop, sAsg, sOwn, sFrz, frz, sPar, sPar3, sNx, sNo, sBk, sCt, sApp, sExt, sSetIx, sAug, sFor, sWhile, m1, m2, mC, mVar, mLook, mAnd, mOr, mNot, mIte, mB, mV, mTru, dTru, mAndV, mOrV, mNotV, mNil, mCons, mTup, mLst, mF, mFS, mItems, mRng, mRng1, mRng2, mRng3, dRng1, dRng2, dRng3, mEnum, mZip, mCut, mNoP, mPt, mRev, mNeg, dNeg, dRev, dCut, mLc, mYes, pName, pTup, pNil, pCons, wipeS, dAdd, dSub, dMul, dDiv, dMod, dMulI, dAddI, dCmp, dIsN, dNotN, isNone, dLenX, dLen, seqOf, dAbs, dMax2, dMin2, dInt, dTuple, dList, dCatL, dRepL, mSt, mStLen, mStCell, sSt, sSt3, drwGet, drwSet, mCh2, mCh3, mCount, dCount, Option.bind_some, Option.map_some, Option.bind_none, Option.map_none, List.getElem?_cons_zero, List.getElem?_cons_succ, List.set_cons_zero, List.set_cons_succ, List.map_cons, List.map_nil, List.cons_append, List.nil_append, List.replicate_succ, List.replicate_zero, List.length_cons, List.length_nil, if_true, if_false, reduceIte, Bool.false_eq_true, Bool.not_true, Bool.not_false, decide_true, decide_false, c2', ea]
  have c2' : ¬ ((cs.sum : Nat) : Int) < 2 := by omega
  have ea : Al = frac (sq cs) (cs.sum * (cs.sum - 1)) := if_neg c2
  rw [seq_nx (if_no (w1 := w2) (by simp only [Ed, runM, runS, env0, flD, cal, sSeq, sIf, sRet, sRetN, sDrop, sAsg, sOwn, sFrz, frz, sPar, sPar3, sNx, sNo, sBk, sCt, sApp, sExt, sSetIx, sAug, sFor, sWhile, m1, m2, mC, mVar, mLook, mAnd, mOr, mNot, mIte, mB, mV, mTru, dTru, mAndV, mOrV, mNotV, mNil, mCons, mTup, mLst, mF, mFS, mItems, mRng, mRng1, mRng2, mRng3, dRng1, dRng2, dRng3, mEnum, mZip, mCut, mNoP, mPt, mRev, mNeg, dNeg, dRev, dCut, mLc, mYes, pName, pTup, pNil, pCons, wipeS, dAdd, dSub, dMul, dDiv, dMod, dMulI, dAddI, dCmp, dIsN, dNotN, isNone, dLenX, dLen, seqOf, dAbs, dMax2, dMin2, dInt, dTuple, dList, dCatL, dRepL, mSt, mStLen, mStCell, sSt, sSt3, drwGet, drwSet, mCh2, mCh3, mCount, dCount, Option.bind_some, Option.map_some, Option.bind_none, Option.map_none, List.getElem?_cons_zero, List.getElem?_cons_succ, List.set_cons_zero, List.set_cons_succ, List.map_cons, List.map_nil, List.cons_append, List.nil_append, List.replicate_succ, List.replicate_zero, List.length_cons, List.length_nil, if_true, if_false, reduceIte, Bool.false_eq_true, Bool.not_true, Bool.not_false, decide_true, decide_false, c2']))]
  have Wp : 0 < cs.sum * (cs.sum - 1) := Nat.mul_pos (by omega) (by omega)
  have Wb : cs.sum * (cs.sum - 1) ≤ 56 * 56 := Nat.mul_le_mul (by omega) (by omega)
  -- unlike
  have sml := smallI_of (i := ((cs.length : Nat) : Int)) (by omega) (by omega)
  have tnl : (((cs.length : Nat) : Int)).toNat = cs.length := by omega
  rw [seq_nx (S1 := Ed (.val (.tuple (nD cs))) (.val (.int ((cs.sum : Nat) : Int))) (.val (.int ((one : Nat) : Int))) Ro (.val Al) (.val (.int (P : Nat))) (.val (.int ((unl cs : Nat) : Int))) .no .no) (w1 := w2) (by
    have rg : mRng1 (mCons (mF dLenX (mCons (mLook 1) mNil)) mNil) (Ed (.val (.tuple (nD cs))) (.val (.int ((cs.sum : Nat) : Int))) (.val (.int ((one : Nat) : Int))) Ro (.val Al) (.val (.int (P : Nat))) .no .no .no) w2 = some (rngD 0 1 cs.length, w2) := by
      simp only [Ed, runM, runS, env0, flD, cal, sSeq, sIf, sRet, sRetN, sDrop, sAsg, sOwn, sFrz, frz, sPar, sPar3, sNx, sNo, sBk, sCt, sApp, sExt, sSetIx, sAug, sFor, sWhile, m1, m2, mC, mVar, mLook, mAnd, mOr, mNot, mIte, mB, mV, mTru, dTru, mAndV, mOrV, mNotV, mNil, mCons, mTup, mLst, mF, mFS, mItems, mRng, mRng1, mRng2, mRng3, dRng1, dRng2, dRng3, mEnum, mZip, mCut, mNoP, mPt, mRev, mNeg, dNeg, dRev, dCut, mLc, mYes, pName, pTup, pNil, pCons, wipeS, dAdd, dSub, dMul, dDiv, dMod, dMulI, dAddI, dCmp, dIsN, dNotN, isNone, dLenX, dLen, seqOf, dAbs, dMax2, dMin2, dInt, dTuple, dList, dCatL, dRepL, mSt, mStLen, mStCell, sSt, sSt3, drwGet, drwSet, mCh2, mCh3, mCount, dCount, Option.bind_some, Option.map_some, Option.bind_none, Option.map_none, List.getElem?_cons_zero, List.getElem?_cons_succ, List.set_cons_zero, List.set_cons_succ, List.map_cons, List.map_nil, List.cons_append, List.nil_append, List.replicate_succ, List.replicate_zero, List.length_cons, List.length_nil, if_true, if_false, reduceIte, Bool.false_eq_true, Bool.not_true, Bool.not_false, decide_true, decide_false, nD_len, if_pos sml, tnl]
    have lc : mLc (mRng1 (mCons (mF dLenX (mCons (mLook 1) mNil)) mNil)) (pName 11) mYes (m2 dMul (m2 dIx (mLook 1) (mLook 11)) (mF dSum (mCons (mCut (mLook 1) (mPt (m2 dAdd (mLook 11) (mC (.int 1)))) mNoP) mNil))) [11]
        (Ed (.val (.tuple (nD cs))) (.val (.int ((cs.sum : Nat) : Int))) (.val (.int ((one : Nat) : Int))) Ro (.val Al) (.val (.int (P : Nat))) .no .no .no) w2 = some (.list ((List.range cs.length).map fun k => .int ((cs.getD k 0 * (cs.drop (k + 1)).sum : Nat) : Int)), w2) := by
      unfold mLc
      rw [rg, Option.bind_some]
      show ((lcGo (pName 11) mYes _ (Ed (.val (.tuple (nD cs))) (.val (.int ((cs.sum : Nat) : Int))) (.val (.int ((one : Nat) : Int))) Ro (.val Al) (.val (.int (P : Nat))) .no .no .no) (rngD 0 1 cs.length) w2).bind _) = _
      rw [lc_rng (f := fun z => .int ((cs.getD z.toNat 0 * (cs.drop (z.toNat + 1)).sum : Nat) : Int)) fun k hk => ⟨_, rfl, by
        have z : (0 : Int) + ((k : Nat) : Int) = ((k : Nat) : Int) := by omega
        have ix : dIx (.tuple (nD cs)) (.int ((k : Nat) : Int)) = some (.int ((cs.getD k 0 : Nat) : Int)) := by
          rw [ixT_nat (by rw [nD_len]; exact hk)]
          unfold nD
          rw [List.getElem_map, List.getD_eq_getElem?_getD, List.getElem?_eq_getElem hk]
          rfl
        have ct := cut_tail hk
        have sd := dSum_natsT (fun k => k) (cs.drop (k + 1))
        rw [List.map_id'] at sd
        have sd' : dSum [.tuple (nD (cs.drop (k + 1)))] = some (.int (((cs.drop (k + 1)).sum : Nat) : Int)) := sd
        have b1 : cs.getD k 0 ≤ 7 := by
          rw [List.getD_eq_getElem?_getD, List.getElem?_eq_getElem hk]
          exact (bnd _ (List.getElem_mem hk)).2
        have m1 : mulOk ((cs.getD k 0 : Nat) : Int) (((cs.drop (k + 1)).sum : Nat) : Int) := mulOk_l (by omega) (by omega)
        simp only [Ed, runM, runS, env0, flD, cal, sSeq, sIf, sRet, sRetN, sDrop, sAsg, sOwn, sFrz, frz, sPar, sPar3, sNx, sNo, sBk, sCt, sApp, sExt, sSetIx, sAug, sFor, sWhile, m1, m2, mC, mVar, mLook, mAnd, mOr, mNot, mIte, mB, mV, mTru, dTru, mAndV, mOrV, mNotV, mNil, mCons, mTup, mLst, mF, mFS, mItems, mRng, mRng1, mRng2, mRng3, dRng1, dRng2, dRng3, mEnum, mZip, mCut, mNoP, mPt, mRev, mNeg, dNeg, dRev, dCut, mLc, mYes, pName, pTup, pNil, pCons, wipeS, dAdd, dSub, dMul, dDiv, dMod, dMulI, dAddI, dCmp, dIsN, dNotN, isNone, dLenX, dLen, seqOf, dAbs, dMax2, dMin2, dInt, dTuple, dList, dCatL, dRepL, mSt, mStLen, mStCell, sSt, sSt3, drwGet, drwSet, mCh2, mCh3, mCount, dCount, Option.bind_some, Option.map_some, Option.bind_none, Option.map_none, List.getElem?_cons_zero, List.getElem?_cons_succ, List.set_cons_zero, List.set_cons_succ, List.map_cons, List.map_nil, List.cons_append, List.nil_append, List.replicate_succ, List.replicate_zero, List.length_cons, List.length_nil, if_true, if_false, reduceIte, Bool.false_eq_true, Bool.not_true, Bool.not_false, decide_true, decide_false, z, ix, ct, sd', if_pos m1, Int.toNat_natCast, Int.natCast_mul]⟩, Option.bind_some]
      have ll : ((List.range cs.length).map (fun (k : Nat) => PyData.int ((cs.getD ((0 : Int) + (k : Nat)).toNat 0 * (cs.drop (((0 : Int) + (k : Nat)).toNat + 1)).sum : Nat) : Int))).length ≤ LB := by rw [List.length_map, List.length_range]; show _ ≤ 1000000; omega
      rw [if_pos ll]
      simp only [Int.zero_add, Int.toNat_natCast]
    have sd := dSum_nats (fun k => cs.getD k 0 * (cs.drop (k + 1)).sum) (List.range cs.length)
    rw [unl_sum] at sd
    simp only [sAsg, mF, mCons, mNil, lc, Option.bind_some, Option.map_some, sd, pName]
    rfl)]
  -- the second test
  have hrev : ∀ x ∈ cs.reverse, 1 ≤ x ∧ x ≤ 60 := fun x hx => b60 x (List.mem_reverse.mp hx)
  have alr := ev_chance_alike (cs := cs.reverse) (by rw [List.length_reverse]; omega) (by rw [List.length_reverse]; omega) hrev (by rw [List.sum_reverse]; exact hs)
  have cor := ev_coverage (cs := cs.reverse) (by rw [List.length_reverse]; omega) (by rw [List.length_reverse]; omega) hrev (by rw [List.sum_reverse]; exact hs) (by rw [List.sum_reverse]; exact hp)
  rw [List.sum_reverse, sq_rev, if_neg c2] at alr
  rw [List.sum_reverse, List.filter_reverse, List.length_reverse] at cor
  have up : unl cs ≤ P := by omega
  have z3 : ((P : Nat) : Int) - ((unl cs : Nat) : Int) = ((P - unl cs : Nat) : Int) := by omega
  have q3 := ev_L_quotient (u := P - unl cs) (d := P) (up_MB (dn_MB (by omega))) (by omega) (up_MB (dn_MB (by omega)))
  have fe : frac (P - unl cs) P = frac (sq cs) (cs.sum * (cs.sum - 1)) := frac_eq (by omega) Wp (by
    have a1 : sq cs = 2 * (P - unl cs) := by omega
    rw [evn, a1]
    grind)
  rw [fe] at q3
  have n3 : dNe (frac (sq cs) (cs.sum * (cs.sum - 1))) (frac (sq cs) (cs.sum * (cs.sum - 1))) = some (.bool false) := dNe_refl rfl
  have n4 : dNe (frac (cs.sum - (cs.filter (· == 1)).length) cs.sum) (frac (cs.sum - (cs.filter (· == 1)).length) cs.sum) = some (.bool false) := dNe_refl rfl
  rw [seq_nx (if_no (w1 := w2) (by simp only [Ed, runM, runS, env0, flD, cal, sSeq, sIf, sRet, sRetN, sDrop, sAsg, sOwn, sFrz, frz, sPar, sPar3, sNx, sNo, sBk, sCt, sApp, sExt, sSetIx, sAug, sFor, sWhile, m1, m2, mC, mVar, mLook, mAnd, mOr, mNot, mIte, mB, mV, mTru, dTru, mAndV, mOrV, mNotV, mNil, mCons, mTup, mLst, mF, mFS, mItems, mRng, mRng1, mRng2, mRng3, dRng1, dRng2, dRng3, mEnum, mZip, mCut, mNoP, mPt, mRev, mNeg, dNeg, dRev, dCut, mLc, mYes, pName, pTup, pNil, pCons, wipeS, dAdd, dSub, dMul, dDiv, dMod, dMulI, dAddI, dCmp, dIsN, dNotN, isNone, dLenX, dLen, seqOf, dAbs, dMax2, dMin2, dInt, dTuple, dList, dCatL, dRepL, mSt, mStLen, mStCell, sSt, sSt3, drwGet, drwSet, mCh2, mCh3, mCount, dCount, Option.bind_some, Option.map_some, Option.bind_none, Option.map_none, List.getElem?_cons_zero, List.getElem?_cons_succ, List.set_cons_zero, List.set_cons_succ, List.map_cons, List.map_nil, List.cons_append, List.nil_append, List.replicate_succ, List.replicate_zero, List.length_cons, List.length_nil, if_true, if_false, reduceIte, Bool.false_eq_true, Bool.not_true, Bool.not_false, decide_true, decide_false, ea, z3, q3, n3, nD_rev, alr, cor, cov, n4, Nat.zero_add, Nat.reduceAdd]))]
  -- told
  obtain ⟨t, w3, e3, t60, i3⟩ := ev_draw i2 (by omega) 60 (by decide) (by decide)
  have c60 : ((60 : Nat) : Int) = 60 := rfl
  rw [c60] at e3
  rw [seq_nx (S1 := Ed (.val (.tuple (nD cs))) (.val (.int ((cs.sum : Nat) : Int))) (.val (.int ((one : Nat) : Int))) Ro (.val Al) (.val (.int (P : Nat))) (.val (.int ((unl cs : Nat) : Int))) (.val (.int (t : Nat))) .no) (w1 := w3) (by simp only [Ed, runM, runS, env0, flD, cal, sSeq, sIf, sRet, sRetN, sDrop, sAsg, sOwn, sFrz, frz, sPar, sPar3, sNx, sNo, sBk, sCt, sApp, sExt, sSetIx, sAug, sFor, sWhile, m1, m2, mC, mVar, mLook, mAnd, mOr, mNot, mIte, mB, mV, mTru, dTru, mAndV, mOrV, mNotV, mNil, mCons, mTup, mLst, mF, mFS, mItems, mRng, mRng1, mRng2, mRng3, dRng1, dRng2, dRng3, mEnum, mZip, mCut, mNoP, mPt, mRev, mNeg, dNeg, dRev, dCut, mLc, mYes, pName, pTup, pNil, pCons, wipeS, dAdd, dSub, dMul, dDiv, dMod, dMulI, dAddI, dCmp, dIsN, dNotN, isNone, dLenX, dLen, seqOf, dAbs, dMax2, dMin2, dInt, dTuple, dList, dCatL, dRepL, mSt, mStLen, mStCell, sSt, sSt3, drwGet, drwSet, mCh2, mCh3, mCount, dCount, Option.bind_some, Option.map_some, Option.bind_none, Option.map_none, List.getElem?_cons_zero, List.getElem?_cons_succ, List.set_cons_zero, List.set_cons_succ, List.map_cons, List.map_nil, List.cons_append, List.nil_append, List.replicate_succ, List.replicate_zero, List.length_cons, List.length_nil, if_true, if_false, reduceIte, Bool.false_eq_true, Bool.not_true, Bool.not_false, decide_true, decide_false, e3])]
  have jd := ev_judge (t := t) (by omega) h1 (by omega) b60
  rw [seq_nx (if_no (w1 := w3) (by
    by_cases et : t = cs.sum
    · have et' : ((t : Nat) : Int) = ((cs.sum : Nat) : Int) := by omega
      rw [if_pos et] at jd
      have n5 : dNe (.tuple [.str "right"]) (.tuple [.str "right"]) = some (.bool false) := dNe_refl rfl
      simp only [Ed, runM, runS, env0, flD, cal, sSeq, sIf, sRet, sRetN, sDrop, sAsg, sOwn, sFrz, frz, sPar, sPar3, sNx, sNo, sBk, sCt, sApp, sExt, sSetIx, sAug, sFor, sWhile, m1, m2, mC, mVar, mLook, mAnd, mOr, mNot, mIte, mB, mV, mTru, dTru, mAndV, mOrV, mNotV, mNil, mCons, mTup, mLst, mF, mFS, mItems, mRng, mRng1, mRng2, mRng3, dRng1, dRng2, dRng3, mEnum, mZip, mCut, mNoP, mPt, mRev, mNeg, dNeg, dRev, dCut, mLc, mYes, pName, pTup, pNil, pCons, wipeS, dAdd, dSub, dMul, dDiv, dMod, dMulI, dAddI, dCmp, dIsN, dNotN, isNone, dLenX, dLen, seqOf, dAbs, dMax2, dMin2, dInt, dTuple, dList, dCatL, dRepL, mSt, mStLen, mStCell, sSt, sSt3, drwGet, drwSet, mCh2, mCh3, mCount, dCount, Option.bind_some, Option.map_some, Option.bind_none, Option.map_none, List.getElem?_cons_zero, List.getElem?_cons_succ, List.set_cons_zero, List.set_cons_succ, List.map_cons, List.map_nil, List.cons_append, List.nil_append, List.replicate_succ, List.replicate_zero, List.length_cons, List.length_nil, if_true, if_false, reduceIte, Bool.false_eq_true, Bool.not_true, Bool.not_false, decide_true, decide_false, jd, dEq_int, decide_eq_true et', Nat.zero_add, Nat.reduceAdd, if_pos l1, n5]
    · have et' : ¬ ((t : Nat) : Int) = ((cs.sum : Nat) : Int) := by omega
      rw [if_neg et] at jd
      have n5 : dNe (.tuple [.str "gap", .int ((t : Int) - (cs.sum : Nat))]) (.tuple [.str "gap", .int ((t : Int) - (cs.sum : Nat))]) = some (.bool false) := dNe_refl rfl
      simp only [Ed, runM, runS, env0, flD, cal, sSeq, sIf, sRet, sRetN, sDrop, sAsg, sOwn, sFrz, frz, sPar, sPar3, sNx, sNo, sBk, sCt, sApp, sExt, sSetIx, sAug, sFor, sWhile, m1, m2, mC, mVar, mLook, mAnd, mOr, mNot, mIte, mB, mV, mTru, dTru, mAndV, mOrV, mNotV, mNil, mCons, mTup, mLst, mF, mFS, mItems, mRng, mRng1, mRng2, mRng3, dRng1, dRng2, dRng3, mEnum, mZip, mCut, mNoP, mPt, mRev, mNeg, dNeg, dRev, dCut, mLc, mYes, pName, pTup, pNil, pCons, wipeS, dAdd, dSub, dMul, dDiv, dMod, dMulI, dAddI, dCmp, dIsN, dNotN, isNone, dLenX, dLen, seqOf, dAbs, dMax2, dMin2, dInt, dTuple, dList, dCatL, dRepL, mSt, mStLen, mStCell, sSt, sSt3, drwGet, drwSet, mCh2, mCh3, mCount, dCount, Option.bind_some, Option.map_some, Option.bind_none, Option.map_none, List.getElem?_cons_zero, List.getElem?_cons_succ, List.set_cons_zero, List.set_cons_succ, List.map_cons, List.map_nil, List.cons_append, List.nil_append, List.replicate_succ, List.replicate_zero, List.length_cons, List.length_nil, if_true, if_false, reduceIte, Bool.false_eq_true, Bool.not_true, Bool.not_false, decide_true, decide_false, jd, dEq_int, decide_eq_false et', Nat.zero_add, Nat.reduceAdd, if_pos l2, n5]))]
  -- joined
  rw [seq_nx (S1 := Ed (.val (.tuple (nD cs))) (.val (.int ((cs.sum : Nat) : Int))) (.val (.int ((one : Nat) : Int))) Ro (.val Al) (.val (.int (P : Nat))) (.val (.int ((unl cs : Nat) : Int))) (.val (.int (t : Nat))) (.val (.tuple (nD (joinL cs))))) (w1 := w3) (by
    unfold sAsg
    rw [ev_joined h1 h8 (by rfl), Option.bind_some]
    rfl)]
  refine ⟨w3, ?_, i3.mono (by omega)⟩
  by_cases l2' : cs.length < 2
  · have l3 : (((nD cs).length : Nat) : Int) < 2 := by rw [nD_len]; omega
    simp only [Ed, runM, runS, env0, flD, cal, sSeq, sIf, sRet, sRetN, sDrop, sAsg, sOwn, sFrz, frz, sPar, sPar3, sNx, sNo, sBk, sCt, sApp, sExt, sSetIx, sAug, sFor, sWhile, m1, m2, mC, mVar, mLook, mAnd, mOr, mNot, mIte, mB, mV, mTru, dTru, mAndV, mOrV, mNotV, mNil, mCons, mTup, mLst, mF, mFS, mItems, mRng, mRng1, mRng2, mRng3, dRng1, dRng2, dRng3, mEnum, mZip, mCut, mNoP, mPt, mRev, mNeg, dNeg, dRev, dCut, mLc, mYes, pName, pTup, pNil, pCons, wipeS, dAdd, dSub, dMul, dDiv, dMod, dMulI, dAddI, dCmp, dIsN, dNotN, isNone, dLenX, dLen, seqOf, dAbs, dMax2, dMin2, dInt, dTuple, dList, dCatL, dRepL, mSt, mStLen, mStCell, sSt, sSt3, drwGet, drwSet, mCh2, mCh3, mCount, dCount, Option.bind_some, Option.map_some, Option.bind_none, Option.map_none, List.getElem?_cons_zero, List.getElem?_cons_succ, List.set_cons_zero, List.set_cons_succ, List.map_cons, List.map_nil, List.cons_append, List.nil_append, List.replicate_succ, List.replicate_zero, List.length_cons, List.length_nil, if_true, if_false, reduceIte, Bool.false_eq_true, Bool.not_true, Bool.not_false, decide_true, decide_false, l3]
  · have l3 : ¬ (((nD cs).length : Nat) : Int) < 2 := by rw [nD_len]; omega
    obtain ⟨j1, j2, j3, j4, j5⟩ := joinL_facts (cs := cs) (by omega) bnd
    have alj := ev_chance_alike (cs := joinL cs) j3 (by omega) j5 (by rw [j1]; exact hs)
    rw [j1, if_neg c2] at alj
    have sqb : sq (joinL cs) ≤ 2 * (56 * 56) := by
      have p2 := pairs_id (joinL cs) fun x hx => (j5 x hx).1
      rw [j1] at p2
      omega
    have ls := ev_less_frac (a := sq (joinL cs)) (W := cs.sum * (cs.sum - 1)) (b := sq cs) (V := cs.sum * (cs.sum - 1)) Wp Wp (dn_MB (by omega)) (dn_MB (by omega)) (dn_MB (by omega)) (dn_MB (by omega))
    have nl : ¬ sq (joinL cs) * (cs.sum * (cs.sum - 1)) < sq cs * (cs.sum * (cs.sum - 1)) := by
      have := Nat.mul_le_mul_right (cs.sum * (cs.sum - 1)) j2
      omega
    rw [decide_eq_false nl] at ls
    simp only [Ed, runM, runS, env0, flD, cal, sSeq, sIf, sRet, sRetN, sDrop, sAsg, sOwn, sFrz, frz, sPar, sPar3, sNx, sNo, sBk, sCt, sApp, sExt, sSetIx, sAug, sFor, sWhile, m1, m2, mC, mVar, mLook, mAnd, mOr, mNot, mIte, mB, mV, mTru, dTru, mAndV, mOrV, mNotV, mNil, mCons, mTup, mLst, mF, mFS, mItems, mRng, mRng1, mRng2, mRng3, dRng1, dRng2, dRng3, mEnum, mZip, mCut, mNoP, mPt, mRev, mNeg, dNeg, dRev, dCut, mLc, mYes, pName, pTup, pNil, pCons, wipeS, dAdd, dSub, dMul, dDiv, dMod, dMulI, dAddI, dCmp, dIsN, dNotN, isNone, dLenX, dLen, seqOf, dAbs, dMax2, dMin2, dInt, dTuple, dList, dCatL, dRepL, mSt, mStLen, mStCell, sSt, sSt3, drwGet, drwSet, mCh2, mCh3, mCount, dCount, Option.bind_some, Option.map_some, Option.bind_none, Option.map_none, List.getElem?_cons_zero, List.getElem?_cons_succ, List.set_cons_zero, List.set_cons_succ, List.map_cons, List.map_nil, List.cons_append, List.nil_append, List.replicate_succ, List.replicate_zero, List.length_cons, List.length_nil, if_true, if_false, reduceIte, Bool.false_eq_true, Bool.not_true, Bool.not_false, decide_true, decide_false, l3, alj, ea, ls, Nat.zero_add, Nat.reduceAdd]
end K70

set_option Elab.async false
set_option linter.all false
set_option maxRecDepth 100000
set_option maxHeartbeats 4000000
set_option exponentiation.threshold 10000
namespace K70
open PySem PySem.Spec PyProof.Rows L2 Mini
/-! ## numbers: the least number of coins -/
def lP (d wd c : Nat) : Bool := decide (wd * d ^ c ≤ T (r d c) (d + 1))
def Ef (d wd : Nat) (a b c e f : Sl) : SEnv := [.val (.int d), .val (.int wd), a, b, c, e, f]
def mLeastB : MS := sSeq (sAsg (mF (cal 2 G_ways_table) (mCons (mVar 0) (mCons (mVar 2) mNil))) (pTup (pCons (pName 3) (pCons (pName 4) pNil))))
    (sIf (mB (m2 dGe (mF dSum (mCons (mLc (mEnum (mLook 3)) (pTup (pCons (pName 5) (pCons (pName 6) pNil))) mYes (m2 dMul (mLook 5) (mLook 6)) [5, 6]) mNil)) (m2 dMul (mLook 1) (mLook 4))))
    (sRet (mLook 2)) sNx)
theorem least_step {d wd c : Nat} (h1 : 1 ≤ d) (hd : d ≤ 40) (hw : wd ≤ 40) (hc : c ≤ 60) (b e : Sl) : ∃ b' e', mLeastB (Ef d wd (.val (.int (c : Nat))) b e .no .no) w0 = some (if lP d wd c = true then .rt (.int (c : Nat)) else .nx, Ef d wd (.val (.int (c : Nat))) b' e' .no .no, w0) := by
  have q3 := ev_ways_table (d := d) (c := c) hd (by omega)
  have cast : ((d : Int) ^ c) = ((d ^ c : Nat) : Int) := (Int.natCast_pow d c).symm
  rw [cast, wRow_r, List.map_map] at q3
  refine ⟨.val (.list ((List.range (d + 1)).map (PyData.int ∘ fun k => ((r d c k : Nat) : Int)))), .val (.int ((d ^ c : Nat) : Int)), ?_⟩
  have hl : lcGo (pTup (pCons (pName 5) (pCons (pName 6) pNil))) mYes (m2 dMul (mLook 5) (mLook 6)) [.val (.int d), .val (.int wd), .val (.int (c : Nat)), .val (.list ((List.range (d + 1)).map (PyData.int ∘ fun k => ((r d c k : Nat) : Int)))), .val (.int ((d ^ c : Nat) : Int)), .no, .no]
      ((List.range (d + 1)).map fun k => .tuple [.int ((k : Nat) : Int), (PyData.int ∘ fun k => ((r d c k : Nat) : Int)) k]) w0 = some ((List.range (d + 1)).map fun k => .int ((k * r d c k : Nat) : Int), w0) := by
    refine lc_nats fun k hk => ?_
    have hk := List.mem_range.mp hk
    refine ⟨_, rfl, ?_⟩
    have m1 : mulOk ((k : Nat) : Int) ((r d c k : Nat) : Int) := mulOk_l (by omega) (by omega)
    simp only [runM, runS, env0, flD, cal, sSeq, sIf, sRet, sRetN, sDrop, sAsg, sOwn, sFrz, frz, sPar, sPar3, sNx, sNo, sBk, sCt, sApp, sExt, sSetIx, sAug, sFor, sWhile, m1, m2, mC, mVar, mLook, mAnd, mOr, mNot, mIte, mB, mV, mTru, dTru, mAndV, mOrV, mNotV, mNil, mCons, mTup, mLst, mF, mFS, mItems, mRng, mRng1, mRng2, mRng3, dRng1, dRng2, dRng3, mEnum, mZip, mCut, mNoP, mPt, mRev, mNeg, dNeg, dRev, dCut, mLc, mYes, pName, pTup, pNil, pCons, wipeS, dAdd, dSub, dMul, dDiv, dMod, dMulI, dAddI, dCmp, dIsN, dNotN, isNone, dLenX, dLen, seqOf, dAbs, dMax2, dMin2, dInt, dTuple, dList, dCatL, dRepL, mSt, mStLen, mStCell, sSt, sSt3, drwGet, drwSet, mCh2, mCh3, mCount, dCount, Option.bind_some, Option.map_some, Option.bind_none, Option.map_none, List.getElem?_cons_zero, List.getElem?_cons_succ, List.set_cons_zero, List.set_cons_succ, List.map_cons, List.map_nil, List.cons_append, List.nil_append, List.replicate_succ, List.replicate_zero, List.length_cons, List.length_nil, if_true, if_false, reduceIte, Bool.false_eq_true, Bool.not_true, Bool.not_false, decide_true, decide_false, Function.comp, if_pos m1, Int.natCast_mul]
  have hlen : ((List.range (d + 1)).map fun k => PyData.int ((k * r d c k : Nat) : Int)).length ≤ LB := by rw [List.length_map, List.length_range]; show d + 1 ≤ 1000000; omega
  have sm := dSum_nats (fun k => k * r d c k) (List.range (d + 1))
  rw [S_range (fun k => k * r d c k) (d + 1), show S (fun k => k * r d c k) (d + 1) = T (r d c) (d + 1) from rfl] at sm
  have m1 : mulOk ((wd : Nat) : Int) ((d ^ c : Nat) : Int) := mulOk_l (by omega) (by omega)
  have e1 : decide (((wd : Nat) : Int) * ((d ^ c : Nat) : Int) ≤ ((T (r d c) (d + 1) : Nat) : Int)) = lP d wd c := by
    rw [← Int.natCast_mul]
    unfold lP
    by_cases h : wd * d ^ c ≤ T (r d c) (d + 1)
    · rw [decide_eq_true h, decide_eq_true (Int.ofNat_le.mpr h)]
    · rw [decide_eq_false h, decide_eq_false (fun z => h (Int.ofNat_le.mp z))]
  cases hp : lP d wd c with
  | true =>
    rw [hp] at e1
    simp only [mLeastB, Ef, runM, runS, env0, flD, cal, sSeq, sIf, sRet, sRetN, sDrop, sAsg, sOwn, sFrz, frz, sPar, sPar3, sNx, sNo, sBk, sCt, sApp, sExt, sSetIx, sAug, sFor, sWhile, m1, m2, mC, mVar, mLook, mAnd, mOr, mNot, mIte, mB, mV, mTru, dTru, mAndV, mOrV, mNotV, mNil, mCons, mTup, mLst, mF, mFS, mItems, mRng, mRng1, mRng2, mRng3, dRng1, dRng2, dRng3, mEnum, mZip, mCut, mNoP, mPt, mRev, mNeg, dNeg, dRev, dCut, mLc, mYes, pName, pTup, pNil, pCons, wipeS, dAdd, dSub, dMul, dDiv, dMod, dMulI, dAddI, dCmp, dIsN, dNotN, isNone, dLenX, dLen, seqOf, dAbs, dMax2, dMin2, dInt, dTuple, dList, dCatL, dRepL, mSt, mStLen, mStCell, sSt, sSt3, drwGet, drwSet, mCh2, mCh3, mCount, dCount, Option.bind_some, Option.map_some, Option.bind_none, Option.map_none, List.getElem?_cons_zero, List.getElem?_cons_succ, List.set_cons_zero, List.set_cons_succ, List.map_cons, List.map_nil, List.cons_append, List.nil_append, List.replicate_succ, List.replicate_zero, List.length_cons, List.length_nil, if_true, if_false, reduceIte, Bool.false_eq_true, Bool.not_true, Bool.not_false, decide_true, decide_false, q3, Nat.zero_add, Nat.reduceAdd, enumD_range0, hl, if_pos hlen, sm, if_pos m1, e1]
  | false =>
    rw [hp] at e1
    simp only [mLeastB, Ef, runM, runS, env0, flD, cal, sSeq, sIf, sRet, sRetN, sDrop, sAsg, sOwn, sFrz, frz, sPar, sPar3, sNx, sNo, sBk, sCt, sApp, sExt, sSetIx, sAug, sFor, sWhile, m1, m2, mC, mVar, mLook, mAnd, mOr, mNot, mIte, mB, mV, mTru, dTru, mAndV, mOrV, mNotV, mNil, mCons, mTup, mLst, mF, mFS, mItems, mRng, mRng1, mRng2, mRng3, dRng1, dRng2, dRng3, mEnum, mZip, mCut, mNoP, mPt, mRev, mNeg, dNeg, dRev, dCut, mLc, mYes, pName, pTup, pNil, pCons, wipeS, dAdd, dSub, dMul, dDiv, dMod, dMulI, dAddI, dCmp, dIsN, dNotN, isNone, dLenX, dLen, seqOf, dAbs, dMax2, dMin2, dInt, dTuple, dList, dCatL, dRepL, mSt, mStLen, mStCell, sSt, sSt3, drwGet, drwSet, mCh2, mCh3, mCount, dCount, Option.bind_some, Option.map_some, Option.bind_none, Option.map_none, List.getElem?_cons_zero, List.getElem?_cons_succ, List.set_cons_zero, List.set_cons_succ, List.map_cons, List.map_nil, List.cons_append, List.nil_append, List.replicate_succ, List.replicate_zero, List.length_cons, List.length_nil, if_true, if_false, reduceIte, Bool.false_eq_true, Bool.not_true, Bool.not_false, decide_true, decide_false, q3, Nat.zero_add, Nat.reduceAdd, enumD_range0, hl, if_pos hlen, sm, if_pos m1, e1]
theorem least_loop {d wd : Nat} (h1 : 1 ≤ d) (hd : d ≤ 40) (hw : wd ≤ 40) : ∀ (n c0 : Nat) (a b e : Sl), c0 + n ≤ 61 → ∃ S', forGo (pName 2) mLeastB (rngD (c0 : Nat) 1 n) (Ef d wd a b e .no .no) w0 = some (match ((List.range n).map (c0 + ·)).find? (lP d wd) with | some c => .rt (.int (c : Nat)) | none => .nx, S', w0)
  | 0, c0, a, b, e, _ => ⟨_, rfl⟩
  | n + 1, c0, a, b, e, h => by
    obtain ⟨b', e', st⟩ := least_step (c := c0) h1 hd hw (by omega) b e
    have hr : (List.range (n + 1)).map (c0 + ·) = c0 :: (List.range n).map (c0 + 1 + ·) := by
      rw [List.range_succ_eq_map, List.map_cons, List.map_map]
      congr 1
      refine List.map_congr_left fun x _ => ?_
      simp only [Function.comp]; omega
    rw [rngD_succ, hr]
    rw [forGo_cons, show pName 2 (.int (c0 : Nat)) (Ef d wd a b e .no .no) = some (Ef d wd (.val (.int (c0 : Nat))) b e .no .no) from rfl, Option.bind_some, st, Option.bind_some]
    cases hp : lP d wd c0 with
    | true =>
      rw [List.find?_cons_of_pos hp]
      exact ⟨_, rfl⟩
    | false =>
      rw [List.find?_cons_of_neg (by rw [hp]; exact Bool.false_ne_true)]
      have e1 : ((c0 : Nat) : Int) + 1 = ((c0 + 1 : Nat) : Int) := by omega
      obtain ⟨S', ih⟩ := least_loop h1 hd hw n (c0 + 1) (.val (.int (c0 : Nat))) b' e' (by omega)
      refine ⟨S', ?_⟩
      rw [← ih, e1]
      rfl
def firstD (o : Option Nat) : PyData := match o with
  | some c => .int (c : Nat)
  | none => .none
theorem ev_least_for {d wd : Nat} (h1 : 1 ≤ d) (hd : d ≤ 40) (hw : wd ≤ 40) : G_least_for [.int d, .int wd] = some (firstD ((List.range 61).find? (lP d wd))) := by
  have q1 := ev_check_dies (i := d) (by omega) (by omega) (.str "dies")
  have w1 : (0 : Int) ≤ ((wd : Nat) : Int) := by omega
  have w2 : ((wd : Nat) : Int) ≤ 40 := by omega
  obtain ⟨S', lp⟩ := least_loop h1 hd hw 61 0 .no .no .no (by omega)
  have sm : smallI 61 = true := smallI_of (by omega) (by omega)
  have ha : (List.range 61).map (0 + ·) = List.range 61 := by simp
  rw [ha] at lp
  have lp' : forGo (pName 2) mLeastB (rngD 0 1 61) [.val (.int d), .val (.int wd), .no, .no, .no, .no, .no] w0 = _ := lp
  have t61 : (61 : Int).toNat = 61 := rfl
  have a61 : (60 : Int) + 1 = 61 := rfl
  unfold G_least_for runM m_least_for
  rw [show env0 5 [.int (d : Nat), .int (wd : Nat)] = [.val (.int d), .val (.int wd), .no, .no, .no, .no, .no] from rfl]
  rw [seq_nx (S1 := [.val (.int d), .val (.int wd), .no, .no, .no, .no, .no]) (w1 := w0) (by simp only [runM, runS, env0, flD, cal, sSeq, sIf, sRet, sRetN, sDrop, sAsg, sOwn, sFrz, frz, sPar, sPar3, sNx, sNo, sBk, sCt, sApp, sExt, sSetIx, sAug, sFor, sWhile, m1, m2, mC, mVar, mLook, mAnd, mOr, mNot, mIte, mB, mV, mTru, dTru, mAndV, mOrV, mNotV, mNil, mCons, mTup, mLst, mF, mFS, mItems, mRng, mRng1, mRng2, mRng3, dRng1, dRng2, dRng3, mEnum, mZip, mCut, mNoP, mPt, mRev, mNeg, dNeg, dRev, dCut, mLc, mYes, pName, pTup, pNil, pCons, wipeS, dAdd, dSub, dMul, dDiv, dMod, dMulI, dAddI, dCmp, dIsN, dNotN, isNone, dLenX, dLen, seqOf, dAbs, dMax2, dMin2, dInt, dTuple, dList, dCatL, dRepL, mSt, mStLen, mStCell, sSt, sSt3, drwGet, drwSet, mCh2, mCh3, mCount, dCount, Option.bind_some, Option.map_some, Option.bind_none, Option.map_none, List.getElem?_cons_zero, List.getElem?_cons_succ, List.set_cons_zero, List.set_cons_succ, List.map_cons, List.map_nil, List.cons_append, List.nil_append, List.replicate_succ, List.replicate_zero, List.length_cons, List.length_nil, if_true, if_false, reduceIte, Bool.false_eq_true, Bool.not_true, Bool.not_false, decide_true, decide_false, q1, Nat.reduceAdd])]
  rw [seq_nx (S1 := [.val (.int d), .val (.int wd), .no, .no, .no, .no, .no]) (w1 := w0) (by simp only [runM, runS, env0, flD, cal, sSeq, sIf, sRet, sRetN, sDrop, sAsg, sOwn, sFrz, frz, sPar, sPar3, sNx, sNo, sBk, sCt, sApp, sExt, sSetIx, sAug, sFor, sWhile, m1, m2, mC, mVar, mLook, mAnd, mOr, mNot, mIte, mB, mV, mTru, dTru, mAndV, mOrV, mNotV, mNil, mCons, mTup, mLst, mF, mFS, mItems, mRng, mRng1, mRng2, mRng3, dRng1, dRng2, dRng3, mEnum, mZip, mCut, mNoP, mPt, mRev, mNeg, dNeg, dRev, dCut, mLc, mYes, pName, pTup, pNil, pCons, wipeS, dAdd, dSub, dMul, dDiv, dMod, dMulI, dAddI, dCmp, dIsN, dNotN, isNone, dLenX, dLen, seqOf, dAbs, dMax2, dMin2, dInt, dTuple, dList, dCatL, dRepL, mSt, mStLen, mStCell, sSt, sSt3, drwGet, drwSet, mCh2, mCh3, mCount, dCount, Option.bind_some, Option.map_some, Option.bind_none, Option.map_none, List.getElem?_cons_zero, List.getElem?_cons_succ, List.set_cons_zero, List.set_cons_succ, List.map_cons, List.map_nil, List.cons_append, List.nil_append, List.replicate_succ, List.replicate_zero, List.length_cons, List.length_nil, if_true, if_false, reduceIte, Bool.false_eq_true, Bool.not_true, Bool.not_false, decide_true, decide_false, ev_is_integer, w1, w2, Nat.zero_add])]
  rw [show (sSeq (sAsg (mF (cal 2 G_ways_table) (mCons (mVar 0) (mCons (mVar 2) mNil))) (pTup (pCons (pName 3) (pCons (pName 4) pNil))))
    (sIf (mB (m2 dGe (mF dSum (mCons (mLc (mEnum (mLook 3)) (pTup (pCons (pName 5) (pCons (pName 6) pNil))) mYes (m2 dMul (mLook 5) (mLook 6)) [5, 6]) mNil)) (m2 dMul (mLook 1) (mLook 4)))) (sRet (mLook 2)) sNx)) = mLeastB from rfl]
  cases hf : (List.range 61).find? (lP d wd) with
  | some c =>
    rw [hf] at lp'
    simp only [runM, runS, env0, flD, cal, sSeq, sIf, sRet, sRetN, sDrop, sAsg, sOwn, sFrz, frz, sPar, sPar3, sNx, sNo, sBk, sCt, sApp, sExt, sSetIx, sAug, sFor, sWhile, m1, m2, mC, mVar, mLook, mAnd, mOr, mNot, mIte, mB, mV, mTru, dTru, mAndV, mOrV, mNotV, mNil, mCons, mTup, mLst, mF, mFS, mItems, mRng, mRng1, mRng2, mRng3, dRng1, dRng2, dRng3, mEnum, mZip, mCut, mNoP, mPt, mRev, mNeg, dNeg, dRev, dCut, mLc, mYes, pName, pTup, pNil, pCons, wipeS, dAdd, dSub, dMul, dDiv, dMod, dMulI, dAddI, dCmp, dIsN, dNotN, isNone, dLenX, dLen, seqOf, dAbs, dMax2, dMin2, dInt, dTuple, dList, dCatL, dRepL, mSt, mStLen, mStCell, sSt, sSt3, drwGet, drwSet, mCh2, mCh3, mCount, dCount, Option.bind_some, Option.map_some, Option.bind_none, Option.map_none, List.getElem?_cons_zero, List.getElem?_cons_succ, List.set_cons_zero, List.set_cons_succ, List.map_cons, List.map_nil, List.cons_append, List.nil_append, List.replicate_succ, List.replicate_zero, List.length_cons, List.length_nil, if_true, if_false, reduceIte, Bool.false_eq_true, Bool.not_true, Bool.not_false, decide_true, decide_false, a61, if_pos sm, t61, lp', firstD]
  | none =>
    rw [hf] at lp'
    simp only [runM, runS, env0, flD, cal, sSeq, sIf, sRet, sRetN, sDrop, sAsg, sOwn, sFrz, frz, sPar, sPar3, sNx, sNo, sBk, sCt, sApp, sExt, sSetIx, sAug, sFor, sWhile, m1, m2, mC, mVar, mLook, mAnd, mOr, mNot, mIte, mB, mV, mTru, dTru, mAndV, mOrV, mNotV, mNil, mCons, mTup, mLst, mF, mFS, mItems, mRng, mRng1, mRng2, mRng3, dRng1, dRng2, dRng3, mEnum, mZip, mCut, mNoP, mPt, mRev, mNeg, dNeg, dRev, dCut, mLc, mYes, pName, pTup, pNil, pCons, wipeS, dAdd, dSub, dMul, dDiv, dMod, dMulI, dAddI, dCmp, dIsN, dNotN, isNone, dLenX, dLen, seqOf, dAbs, dMax2, dMin2, dInt, dTuple, dList, dCatL, dRepL, mSt, mStLen, mStCell, sSt, sSt3, drwGet, drwSet, mCh2, mCh3, mCount, dCount, Option.bind_some, Option.map_some, Option.bind_none, Option.map_none, List.getElem?_cons_zero, List.getElem?_cons_succ, List.set_cons_zero, List.set_cons_succ, List.map_cons, List.map_nil, List.cons_append, List.nil_append, List.replicate_succ, List.replicate_zero, List.length_cons, List.length_nil, if_true, if_false, reduceIte, Bool.false_eq_true, Bool.not_true, Bool.not_false, decide_true, decide_false, a61, if_pos sm, t61, lp', firstD]
/-! ## the likeliest number of dies: j stands for j + 1 dies -/
def hN (c s j : Nat) : Nat := if s ≤ j + 1 then r (j + 1) c s else 0
def wN (c j : Nat) : Nat := (j + 1) ^ c
theorem wN_pos (c j : Nat) : 0 < wN c j := Nat.pow_pos (by omega)
def better (c s : Nat) (o : Option Nat) (j : Nat) : Option Nat := if hN c s j = 0 then o else match o with
  | none => some j
  | some b => if hN c s b * wN c j < hN c s j * wN c b then some j else some b
def bestD (c s : Nat) : Option Nat → PyData
  | none => .none
  | some b => .tuple [.int ((hN c s b : Nat) : Int), .int ((wN c b : Nat) : Int), .int ((b + 1 : Nat) : Int)]
def Eg (c s most : Nat) (b d rw_ wh : Sl) : SEnv := [.val (.int c), .val (.int s), .val (.int most), b, d, rw_, wh]
def mLikB : MS := sSeq (sAsg (mF (cal 2 G_ways_table) (mCons (mVar 4) (mCons (mVar 0) mNil))) (pTup (pCons (pName 5) (pCons (pName 6) pNil))))
    (sIf (mAnd (mTru (m2 dIx (mLook 5) (mLook 1))) (mOr (mB (m2 dIsN (mLook 3) (mC .none))) (mB (m2 dGt (m2 dMul (m2 dIx (mLook 5) (mLook 1)) (m2 dIx (mLook 3) (mC (.int 1)))) (m2 dMul (m2 dIx (mLook 3) (mC (.int 0))) (mLook 6))))))
    (sAsg (mTup (mCons (m2 dIx (mLook 5) (mLook 1)) (mCons (mVar 6) (mCons (mVar 4) mNil)))) (pName 3)) sNx)
theorem hN_le {c s j : Nat} : hN c s j ≤ wN c j := by
  unfold hN wN
  split
  · rename_i h; exact r_le h
  · exact Nat.zero_le _
theorem wN_le {c j : Nat} (hj : j < 40) (hc : c ≤ 60) : wN c j ≤ 2 ^ 372 := pow_MB (by omega) (by omega)
theorem ix3_0 (a b c : PyData) : dIx (.tuple [a, b, c]) (.int 0) = some a := rfl
theorem ix3_1 (a b c : PyData) : dIx (.tuple [a, b, c]) (.int 1) = some b := rfl
theorem ix3_2 (a b c : PyData) : dIx (.tuple [a, b, c]) (.int 2) = some c := rfl
theorem lik_step {c s j most : Nat} {o : Option Nat} (hc : c ≤ 60) (hj : j < 40) (hs : s ≤ j + 1) (ho : ∀ b, o = some b → b < 40) (x y : Sl) : ∃ x' y', mLikB (Eg c s most (.val (bestD c s o)) (.val (.int ((j + 1 : Nat) : Int))) x y) w0 = some (.nx, Eg c s most (.val (bestD c s (better c s o j))) (.val (.int ((j + 1 : Nat) : Int))) x' y', w0) := by
  have q3 := ev_ways_table (d := j + 1) (c := c) (by omega) (by omega)
  have cast : (((j + 1 : Nat) : Int) ^ c) = ((wN c j : Nat) : Int) := (Int.natCast_pow (j + 1) c).symm
  rw [cast] at q3
  have ix := ix_ints (R := wRow (j + 1) c) (k := s) (by rw [wRow_len]; omega)
  have hv : (wRow (j + 1) c).getD s 0 = ((hN c s j : Nat) : Int) := by
    rw [wRow_r, getD_map_range (by omega)]
    unfold hN
    rw [if_pos hs]
  rw [hv] at ix
  refine ⟨.val (.list ((wRow (j + 1) c).map .int)), .val (.int ((wN c j : Nat) : Int)), ?_⟩
  have l3 : (3 : Nat) ≤ LB := by decide
  have st : sAsg (mF (cal 2 G_ways_table) (mCons (mVar 4) (mCons (mVar 0) mNil))) (pTup (pCons (pName 5) (pCons (pName 6) pNil))) (Eg c s most (.val (bestD c s o)) (.val (.int ((j + 1 : Nat) : Int))) x y) w0 = some (.nx, Eg c s most (.val (bestD c s o)) (.val (.int ((j + 1 : Nat) : Int))) (.val (.list ((wRow (j + 1) c).map .int))) (.val (.int ((wN c j : Nat) : Int))), w0) := by
    simp only [Eg, runM, runS, env0, flD, cal, sSeq, sIf, sRet, sRetN, sDrop, sAsg, sOwn, sFrz, frz, sPar, sPar3, sNx, sNo, sBk, sCt, sApp, sExt, sSetIx, sAug, sFor, sWhile, m1, m2, mC, mVar, mLook, mAnd, mOr, mNot, mIte, mB, mV, mTru, dTru, mAndV, mOrV, mNotV, mNil, mCons, mTup, mLst, mF, mFS, mItems, mRng, mRng1, mRng2, mRng3, dRng1, dRng2, dRng3, mEnum, mZip, mCut, mNoP, mPt, mRev, mNeg, dNeg, dRev, dCut, mLc, mYes, pName, pTup, pNil, pCons, wipeS, dAdd, dSub, dMul, dDiv, dMod, dMulI, dAddI, dCmp, dIsN, dNotN, isNone, dLenX, dLen, seqOf, dAbs, dMax2, dMin2, dInt, dTuple, dList, dCatL, dRepL, mSt, mStLen, mStCell, sSt, sSt3, drwGet, drwSet, mCh2, mCh3, mCount, dCount, Option.bind_some, Option.map_some, Option.bind_none, Option.map_none, List.getElem?_cons_zero, List.getElem?_cons_succ, List.set_cons_zero, List.set_cons_succ, List.map_cons, List.map_nil, List.cons_append, List.nil_append, List.replicate_succ, List.replicate_zero, List.length_cons, List.length_nil, if_true, if_false, reduceIte, Bool.false_eq_true, Bool.not_true, Bool.not_false, decide_true, decide_false, q3, Nat.zero_add, Nat.reduceAdd]
  unfold mLikB
  rw [seq_nx st]
  by_cases h0 : hN c s j = 0
  · have hb : (((hN c s j : Nat) : Int) != 0) = false := by rw [h0]; rfl
    unfold better
    rw [if_pos h0]
    simp only [Eg, runM, runS, env0, flD, cal, sSeq, sIf, sRet, sRetN, sDrop, sAsg, sOwn, sFrz, frz, sPar, sPar3, sNx, sNo, sBk, sCt, sApp, sExt, sSetIx, sAug, sFor, sWhile, m1, m2, mC, mVar, mLook, mAnd, mOr, mNot, mIte, mB, mV, mTru, dTru, mAndV, mOrV, mNotV, mNil, mCons, mTup, mLst, mF, mFS, mItems, mRng, mRng1, mRng2, mRng3, dRng1, dRng2, dRng3, mEnum, mZip, mCut, mNoP, mPt, mRev, mNeg, dNeg, dRev, dCut, mLc, mYes, pName, pTup, pNil, pCons, wipeS, dAdd, dSub, dMul, dDiv, dMod, dMulI, dAddI, dCmp, dIsN, dNotN, isNone, dLenX, dLen, seqOf, dAbs, dMax2, dMin2, dInt, dTuple, dList, dCatL, dRepL, mSt, mStLen, mStCell, sSt, sSt3, drwGet, drwSet, mCh2, mCh3, mCount, dCount, Option.bind_some, Option.map_some, Option.bind_none, Option.map_none, List.getElem?_cons_zero, List.getElem?_cons_succ, List.set_cons_zero, List.set_cons_succ, List.map_cons, List.map_nil, List.cons_append, List.nil_append, List.replicate_succ, List.replicate_zero, List.length_cons, List.length_nil, if_true, if_false, reduceIte, Bool.false_eq_true, Bool.not_true, Bool.not_false, decide_true, decide_false, ix, hb]
  · have hb : (((hN c s j : Nat) : Int) != 0) = true := by simp; omega
    unfold better
    rw [if_neg h0]
    cases o with
    | none => simp only [Eg, bestD, runM, runS, env0, flD, cal, sSeq, sIf, sRet, sRetN, sDrop, sAsg, sOwn, sFrz, frz, sPar, sPar3, sNx, sNo, sBk, sCt, sApp, sExt, sSetIx, sAug, sFor, sWhile, m1, m2, mC, mVar, mLook, mAnd, mOr, mNot, mIte, mB, mV, mTru, dTru, mAndV, mOrV, mNotV, mNil, mCons, mTup, mLst, mF, mFS, mItems, mRng, mRng1, mRng2, mRng3, dRng1, dRng2, dRng3, mEnum, mZip, mCut, mNoP, mPt, mRev, mNeg, dNeg, dRev, dCut, mLc, mYes, pName, pTup, pNil, pCons, wipeS, dAdd, dSub, dMul, dDiv, dMod, dMulI, dAddI, dCmp, dIsN, dNotN, isNone, dLenX, dLen, seqOf, dAbs, dMax2, dMin2, dInt, dTuple, dList, dCatL, dRepL, mSt, mStLen, mStCell, sSt, sSt3, drwGet, drwSet, mCh2, mCh3, mCount, dCount, Option.bind_some, Option.map_some, Option.bind_none, Option.map_none, List.getElem?_cons_zero, List.getElem?_cons_succ, List.set_cons_zero, List.set_cons_succ, List.map_cons, List.map_nil, List.cons_append, List.nil_append, List.replicate_succ, List.replicate_zero, List.length_cons, List.length_nil, if_true, if_false, reduceIte, Bool.false_eq_true, Bool.not_true, Bool.not_false, decide_true, decide_false, ix, hb, Nat.zero_add, Nat.reduceAdd, if_pos l3]
    | some b =>
      have hb40 := ho b rfl
      have m1 : mulOk ((hN c s j : Nat) : Int) ((wN c b : Nat) : Int) := mul_MB (dn_MB (by have := hN_le (c := c) (s := s) (j := j); have := wN_le hj hc; omega)) (dn_MB (by have := wN_le hb40 hc; omega))
      have m2' : mulOk ((hN c s b : Nat) : Int) ((wN c j : Nat) : Int) := mul_MB (dn_MB (by have := hN_le (c := c) (s := s) (j := b); have := wN_le hb40 hc; omega)) (dn_MB (by have := wN_le hj hc; omega))
      have e1 : decide (((hN c s b : Nat) : Int) * ((wN c j : Nat) : Int) < ((hN c s j : Nat) : Int) * ((wN c b : Nat) : Int)) = decide (hN c s b * wN c j < hN c s j * wN c b) := by
        rw [← Int.natCast_mul, ← Int.natCast_mul]
        by_cases h : hN c s b * wN c j < hN c s j * wN c b
        · rw [decide_eq_true h, decide_eq_true (Int.ofNat_lt.mpr h)]
        · rw [decide_eq_false h, decide_eq_false (fun z => h (Int.ofNat_lt.mp z))]
      by_cases h : hN c s b * wN c j < hN c s j * wN c b
      · rw [decide_eq_true h] at e1
        simp only [Eg, bestD, runM, runS, env0, flD, cal, sSeq, sIf, sRet, sRetN, sDrop, sAsg, sOwn, sFrz, frz, sPar, sPar3, sNx, sNo, sBk, sCt, sApp, sExt, sSetIx, sAug, sFor, sWhile, m1, m2, mC, mVar, mLook, mAnd, mOr, mNot, mIte, mB, mV, mTru, dTru, mAndV, mOrV, mNotV, mNil, mCons, mTup, mLst, mF, mFS, mItems, mRng, mRng1, mRng2, mRng3, dRng1, dRng2, dRng3, mEnum, mZip, mCut, mNoP, mPt, mRev, mNeg, dNeg, dRev, dCut, mLc, mYes, pName, pTup, pNil, pCons, wipeS, dAdd, dSub, dMul, dDiv, dMod, dMulI, dAddI, dCmp, dIsN, dNotN, isNone, dLenX, dLen, seqOf, dAbs, dMax2, dMin2, dInt, dTuple, dList, dCatL, dRepL, mSt, mStLen, mStCell, sSt, sSt3, drwGet, drwSet, mCh2, mCh3, mCount, dCount, Option.bind_some, Option.map_some, Option.bind_none, Option.map_none, List.getElem?_cons_zero, List.getElem?_cons_succ, List.set_cons_zero, List.set_cons_succ, List.map_cons, List.map_nil, List.cons_append, List.nil_append, List.replicate_succ, List.replicate_zero, List.length_cons, List.length_nil, if_true, if_false, reduceIte, Bool.false_eq_true, Bool.not_true, Bool.not_false, decide_true, decide_false, ix, hb, ix3_0, ix3_1, if_pos m1, if_pos m2', e1, if_pos h, Nat.zero_add, Nat.reduceAdd, if_pos l3]
      · rw [decide_eq_false h] at e1
        simp only [Eg, bestD, runM, runS, env0, flD, cal, sSeq, sIf, sRet, sRetN, sDrop, sAsg, sOwn, sFrz, frz, sPar, sPar3, sNx, sNo, sBk, sCt, sApp, sExt, sSetIx, sAug, sFor, sWhile, m1, m2, mC, mVar, mLook, mAnd, mOr, mNot, mIte, mB, mV, mTru, dTru, mAndV, mOrV, mNotV, mNil, mCons, mTup, mLst, mF, mFS, mItems, mRng, mRng1, mRng2, mRng3, dRng1, dRng2, dRng3, mEnum, mZip, mCut, mNoP, mPt, mRev, mNeg, dNeg, dRev, dCut, mLc, mYes, pName, pTup, pNil, pCons, wipeS, dAdd, dSub, dMul, dDiv, dMod, dMulI, dAddI, dCmp, dIsN, dNotN, isNone, dLenX, dLen, seqOf, dAbs, dMax2, dMin2, dInt, dTuple, dList, dCatL, dRepL, mSt, mStLen, mStCell, sSt, sSt3, drwGet, drwSet, mCh2, mCh3, mCount, dCount, Option.bind_some, Option.map_some, Option.bind_none, Option.map_none, List.getElem?_cons_zero, List.getElem?_cons_succ, List.set_cons_zero, List.set_cons_succ, List.map_cons, List.map_nil, List.cons_append, List.nil_append, List.replicate_succ, List.replicate_zero, List.length_cons, List.length_nil, if_true, if_false, reduceIte, Bool.false_eq_true, Bool.not_true, Bool.not_false, decide_true, decide_false, ix, hb, ix3_0, ix3_1, if_pos m1, if_pos m2', e1, if_neg h, Nat.zero_add, Nat.reduceAdd, if_pos l3]
theorem better_lt {c s n : Nat} {o : Option Nat} {j : Nat} (ho : ∀ b, o = some b → b < n) (hj : j < n) : ∀ b, better c s o j = some b → b < n := by
  intro b hb
  unfold better at hb
  split at hb
  · exact ho b hb
  · split at hb
    · cases hb; exact hj
    · rename_i b0
      split at hb
      · cases hb; exact hj
      · cases hb; exact ho b rfl
theorem lik_loop {c s most : Nat} (hc : c ≤ 60) : ∀ (n j : Nat) (o : Option Nat) (d x y : Sl), j + n ≤ 40 → s ≤ j + 1 → (∀ b, o = some b → b < 40) → ∃ d' x' y', forGo (pName 4) mLikB (rngD ((j + 1 : Nat) : Int) 1 n) (Eg c s most (.val (bestD c s o)) d x y) w0 = some (.nx, Eg c s most (.val (bestD c s (((List.range n).map (j + ·)).foldl (better c s) o))) d' x' y', w0)
  | 0, j, o, d, x, y, _, _, _ => ⟨d, x, y, rfl⟩
  | n + 1, j, o, d, x, y, h, hs, ho => by
    obtain ⟨x1, y1, st⟩ := lik_step (most := most) hc (show j < 40 by omega) hs ho x y
    obtain ⟨d', x', y', ih⟩ := lik_loop (s := s) (most := most) hc n (j + 1) (better c s o j) (.val (.int ((j + 1 : Nat) : Int))) x1 y1 (by omega) (by omega) (better_lt (n := 40) ho (by omega))
    refine ⟨d', x', y', ?_⟩
    have hr : (List.range (n + 1)).map (j + ·) = j :: (List.range n).map (j + 1 + ·) := by
      rw [List.range_succ_eq_map, List.map_cons, List.map_map]
      congr 1
      refine List.map_congr_left fun x _ => ?_
      simp only [Function.comp]; omega
    rw [rngD_succ, hr, List.foldl_cons, forGo_cons]
    rw [show pName 4 (.int ((j + 1 : Nat) : Int)) (Eg c s most (.val (bestD c s o)) d x y) = some (Eg c s most (.val (bestD c s o)) (.val (.int ((j + 1 : Nat) : Int))) x y) from rfl, Option.bind_some, st, Option.bind_some]
    have e1 : ((j + 1 : Nat) : Int) + 1 = ((j + 1 + 1 : Nat) : Int) := by omega
    rw [← ih, e1]
/-- what the fold finds: the first of the greatest -/
def IsBest (c s n : Nat) (o : Option Nat) : Prop := match o with
  | none => ∀ j, j < n → hN c s j = 0
  | some b => b < n ∧ 0 < hN c s b ∧ (∀ j, j < n → hN c s j * wN c b ≤ hN c s b * wN c j) ∧ ∀ j, j < b → hN c s j * wN c b < hN c s b * wN c j
theorem best_step {c s n : Nat} {o : Option Nat} (h : IsBest c s n o) : IsBest c s (n + 1) (better c s o n) := by
  unfold better
  by_cases h0 : hN c s n = 0
  · rw [if_pos h0]
    cases o with
    | none => exact fun j hj => if e : j = n then by rw [e]; exact h0 else h j (by omega)
    | some b =>
      obtain ⟨a1, a2, a3, a4⟩ := h
      refine ⟨by omega, a2, fun j hj => ?_, a4⟩
      by_cases e : j = n
      · rw [e, h0, Nat.zero_mul]; exact Nat.zero_le _
      · exact a3 j (by omega)
  · rw [if_neg h0]
    have hp : 0 < hN c s n := by omega
    cases o with
    | none =>
      refine ⟨by omega, hp, fun j hj => ?_, fun j hj => ?_⟩
      · by_cases e : j = n
        · rw [e]; exact Nat.le_refl _
        · have hj0 : hN c s j = 0 := h j (by omega)
          rw [hj0, Nat.zero_mul]; exact Nat.zero_le _
      · have hj0 : hN c s j = 0 := h j hj
        rw [hj0, Nat.zero_mul]
        exact Nat.mul_pos hp (wN_pos _ _)
    | some b =>
      obtain ⟨a1, a2, a3, a4⟩ := h
      dsimp only
      by_cases hl : hN c s b * wN c n < hN c s n * wN c b
      · rw [if_pos hl]
        have key : ∀ j, j < n → hN c s j * wN c n < hN c s n * wN c j := fun j hj => by
          have q := a3 j hj
          have pb := wN_pos c b
          have pj := wN_pos c j
          have pn := wN_pos c n
          refine (Nat.mul_lt_mul_right (a := wN c b) pb).mp ?_
          calc hN c s j * wN c n * wN c b = (hN c s j * wN c b) * wN c n := by ac_rfl
            _ ≤ (hN c s b * wN c j) * wN c n := Nat.mul_le_mul_right _ q
            _ = (hN c s b * wN c n) * wN c j := by ac_rfl
            _ < (hN c s n * wN c b) * wN c j := (Nat.mul_lt_mul_right pj).mpr hl
            _ = hN c s n * wN c j * wN c b := by ac_rfl
        refine ⟨by omega, hp, fun j hj => ?_, key⟩
        by_cases e : j = n
        · rw [e]; exact Nat.le_refl _
        · exact Nat.le_of_lt (key j (by omega))
      · rw [if_neg hl]
        refine ⟨by omega, a2, fun j hj => ?_, a4⟩
        by_cases e : j = n
        · rw [e]; omega
        · exact a3 j (by omega)
theorem best_fold {c s : Nat} : ∀ n, IsBest c s n ((List.range n).foldl (better c s) none)
  | 0 => fun j hj => absurd hj (by omega)
  | n + 1 => by
    rw [List.range_succ, List.foldl_append]
    exact best_step (best_fold n)
def bP (c s n k : Nat) : Bool := decide (0 < hN c s k) && (List.range n).all fun j => !decide (hN c s k * wN c j < hN c s j * wN c k)
theorem best_find {c s n : Nat} : (List.range n).find? (bP c s n) = (List.range n).foldl (better c s) none := by
  have h := best_fold (c := c) (s := s) n
  cases ho : (List.range n).foldl (better c s) none with
  | none =>
    rw [ho] at h
    rw [List.find?_eq_none]
    intro k hk hp
    unfold bP at hp
    rw [Bool.and_eq_true, decide_eq_true_eq] at hp
    have hz : hN c s k = 0 := h k (List.mem_range.mp hk)
    omega
  | some b =>
    rw [ho] at h
    obtain ⟨a1, a2, a3, a4⟩ := h
    have pb : bP c s n b = true := by
      unfold bP
      rw [Bool.and_eq_true, decide_eq_true_eq, List.all_eq_true]
      refine ⟨a2, fun j hj => ?_⟩
      have := a3 j (List.mem_range.mp hj)
      simp; omega
    have nb : ∀ k, k < b → bP c s n k = false := fun k hk => by
      unfold bP
      rw [Bool.and_eq_false_iff]
      refine .inr ?_
      rw [List.all_eq_false]
      exact ⟨b, List.mem_range.mpr a1, by have := a4 k hk; simp; omega⟩
    rw [List.find?_range_eq_some]
    exact ⟨pb, List.mem_range.mpr a1, fun k hk => by rw [nb k hk]; rfl⟩
theorem fold_zero {c s : Nat} : ∀ l : List Nat, (∀ j ∈ l, hN c s j = 0) → l.foldl (better c s) none = none
  | [], _ => rfl
  | j :: l, h => by
    have h0 := h j (List.mem_cons_self ..)
    rw [List.foldl_cons, show better c s none j = none from if_pos h0]
    exact fold_zero l fun k hk => h k (List.mem_cons_of_mem _ hk)
theorem fold_from {c s m : Nat} : ((List.range (m - (s - 1))).map (s - 1 + ·)).foldl (better c s) none = (List.range m).foldl (better c s) none := by
  have z : ∀ j, j < s - 1 → hN c s j = 0 := fun j hj => if_neg (by omega)
  by_cases h : s - 1 ≤ m
  · have e : List.range m = List.range (s - 1) ++ (List.range (m - (s - 1))).map (s - 1 + ·) := by
      rw [← List.range_add]
      congr 1; omega
    rw [e, List.foldl_append, fold_zero (List.range (s - 1)) fun j hj => z j (List.mem_range.mp hj)]
  · rw [show m - (s - 1) = 0 by omega]
    exact (fold_zero (List.range m) fun j hj => z j (by have := List.mem_range.mp hj; omega)).symm
def upD (o : Option Nat) : PyData := match o with
  | some b => .int ((b + 1 : Nat) : Int)
  | none => .none
theorem ev_likeliest {c s m : Nat} (hc : c ≤ 60) (hs : s ≤ 40) (h1 : 1 ≤ m) (hm : m ≤ 40) : G_likeliest_dies [.int c, .int s, .int m] = some (upD ((List.range m).find? (bP c s m))) := by
  have q1 := ev_check_coins (i := c) (by omega) (by omega)
  have q2 := ev_check_seen (i := s) (by omega) (by omega)
  have q3 := ev_check_dies (i := m) (by omega) (by omega) (.str "most")
  obtain ⟨d', x', y', lp⟩ := lik_loop (most := m) (s := s) hc (m - (s - 1)) (s - 1) none .no .no .no (by omega) (by omega) (fun b hb => by cases hb)
  rw [fold_from, ← best_find] at lp
  unfold G_likeliest_dies runM m_likeliest_dies
  rw [show env0 4 [.int (c : Nat), .int (s : Nat), .int (m : Nat)] = [.val (.int c), .val (.int s), .val (.int m), .no, .no, .no, .no] from rfl]
  rw [seq_nx (S1 := [.val (.int c), .val (.int s), .val (.int m), .no, .no, .no, .no]) (w1 := w0) (by simp only [runM, runS, env0, flD, cal, sSeq, sIf, sRet, sRetN, sDrop, sAsg, sOwn, sFrz, frz, sPar, sPar3, sNx, sNo, sBk, sCt, sApp, sExt, sSetIx, sAug, sFor, sWhile, m1, m2, mC, mVar, mLook, mAnd, mOr, mNot, mIte, mB, mV, mTru, dTru, mAndV, mOrV, mNotV, mNil, mCons, mTup, mLst, mF, mFS, mItems, mRng, mRng1, mRng2, mRng3, dRng1, dRng2, dRng3, mEnum, mZip, mCut, mNoP, mPt, mRev, mNeg, dNeg, dRev, dCut, mLc, mYes, pName, pTup, pNil, pCons, wipeS, dAdd, dSub, dMul, dDiv, dMod, dMulI, dAddI, dCmp, dIsN, dNotN, isNone, dLenX, dLen, seqOf, dAbs, dMax2, dMin2, dInt, dTuple, dList, dCatL, dRepL, mSt, mStLen, mStCell, sSt, sSt3, drwGet, drwSet, mCh2, mCh3, mCount, dCount, Option.bind_some, Option.map_some, Option.bind_none, Option.map_none, List.getElem?_cons_zero, List.getElem?_cons_succ, List.set_cons_zero, List.set_cons_succ, List.map_cons, List.map_nil, List.cons_append, List.nil_append, List.replicate_succ, List.replicate_zero, List.length_cons, List.length_nil, if_true, if_false, reduceIte, Bool.false_eq_true, Bool.not_true, Bool.not_false, decide_true, decide_false, q1])]
  rw [seq_nx (S1 := [.val (.int c), .val (.int s), .val (.int m), .no, .no, .no, .no]) (w1 := w0) (by simp only [runM, runS, env0, flD, cal, sSeq, sIf, sRet, sRetN, sDrop, sAsg, sOwn, sFrz, frz, sPar, sPar3, sNx, sNo, sBk, sCt, sApp, sExt, sSetIx, sAug, sFor, sWhile, m1, m2, mC, mVar, mLook, mAnd, mOr, mNot, mIte, mB, mV, mTru, dTru, mAndV, mOrV, mNotV, mNil, mCons, mTup, mLst, mF, mFS, mItems, mRng, mRng1, mRng2, mRng3, dRng1, dRng2, dRng3, mEnum, mZip, mCut, mNoP, mPt, mRev, mNeg, dNeg, dRev, dCut, mLc, mYes, pName, pTup, pNil, pCons, wipeS, dAdd, dSub, dMul, dDiv, dMod, dMulI, dAddI, dCmp, dIsN, dNotN, isNone, dLenX, dLen, seqOf, dAbs, dMax2, dMin2, dInt, dTuple, dList, dCatL, dRepL, mSt, mStLen, mStCell, sSt, sSt3, drwGet, drwSet, mCh2, mCh3, mCount, dCount, Option.bind_some, Option.map_some, Option.bind_none, Option.map_none, List.getElem?_cons_zero, List.getElem?_cons_succ, List.set_cons_zero, List.set_cons_succ, List.map_cons, List.map_nil, List.cons_append, List.nil_append, List.replicate_succ, List.replicate_zero, List.length_cons, List.length_nil, if_true, if_false, reduceIte, Bool.false_eq_true, Bool.not_true, Bool.not_false, decide_true, decide_false, q2])]
  rw [seq_nx (S1 := [.val (.int c), .val (.int s), .val (.int m), .no, .no, .no, .no]) (w1 := w0) (by simp only [runM, runS, env0, flD, cal, sSeq, sIf, sRet, sRetN, sDrop, sAsg, sOwn, sFrz, frz, sPar, sPar3, sNx, sNo, sBk, sCt, sApp, sExt, sSetIx, sAug, sFor, sWhile, m1, m2, mC, mVar, mLook, mAnd, mOr, mNot, mIte, mB, mV, mTru, dTru, mAndV, mOrV, mNotV, mNil, mCons, mTup, mLst, mF, mFS, mItems, mRng, mRng1, mRng2, mRng3, dRng1, dRng2, dRng3, mEnum, mZip, mCut, mNoP, mPt, mRev, mNeg, dNeg, dRev, dCut, mLc, mYes, pName, pTup, pNil, pCons, wipeS, dAdd, dSub, dMul, dDiv, dMod, dMulI, dAddI, dCmp, dIsN, dNotN, isNone, dLenX, dLen, seqOf, dAbs, dMax2, dMin2, dInt, dTuple, dList, dCatL, dRepL, mSt, mStLen, mStCell, sSt, sSt3, drwGet, drwSet, mCh2, mCh3, mCount, dCount, Option.bind_some, Option.map_some, Option.bind_none, Option.map_none, List.getElem?_cons_zero, List.getElem?_cons_succ, List.set_cons_zero, List.set_cons_succ, List.map_cons, List.map_nil, List.cons_append, List.nil_append, List.replicate_succ, List.replicate_zero, List.length_cons, List.length_nil, if_true, if_false, reduceIte, Bool.false_eq_true, Bool.not_true, Bool.not_false, decide_true, decide_false, q3, Nat.zero_add, Nat.reduceAdd])]
  rw [seq_nx (S1 := [.val (.int c), .val (.int s), .val (.int m), .val .none, .no, .no, .no]) (w1 := w0) (by simp only [runM, runS, env0, flD, cal, sSeq, sIf, sRet, sRetN, sDrop, sAsg, sOwn, sFrz, frz, sPar, sPar3, sNx, sNo, sBk, sCt, sApp, sExt, sSetIx, sAug, sFor, sWhile, m1, m2, mC, mVar, mLook, mAnd, mOr, mNot, mIte, mB, mV, mTru, dTru, mAndV, mOrV, mNotV, mNil, mCons, mTup, mLst, mF, mFS, mItems, mRng, mRng1, mRng2, mRng3, dRng1, dRng2, dRng3, mEnum, mZip, mCut, mNoP, mPt, mRev, mNeg, dNeg, dRev, dCut, mLc, mYes, pName, pTup, pNil, pCons, wipeS, dAdd, dSub, dMul, dDiv, dMod, dMulI, dAddI, dCmp, dIsN, dNotN, isNone, dLenX, dLen, seqOf, dAbs, dMax2, dMin2, dInt, dTuple, dList, dCatL, dRepL, mSt, mStLen, mStCell, sSt, sSt3, drwGet, drwSet, mCh2, mCh3, mCount, dCount, Option.bind_some, Option.map_some, Option.bind_none, Option.map_none, List.getElem?_cons_zero, List.getElem?_cons_succ, List.set_cons_zero, List.set_cons_succ, List.map_cons, List.map_nil, List.cons_append, List.nil_append, List.replicate_succ, List.replicate_zero, List.length_cons, List.length_nil, if_true, if_false, reduceIte, Bool.false_eq_true, Bool.not_true, Bool.not_false, decide_true, decide_false])]
  have rg : mRng2 (mCons (mF dMax2 (mCons (mC (.int 1)) (mCons (mLook 1) mNil))) (mCons (m2 dAdd (mLook 2) (mC (.int 1))) mNil)) [.val (.int c), .val (.int s), .val (.int m), .val .none, .no, .no, .no] w0 = some (rngD ((s - 1 + 1 : Nat) : Int) 1 (m - (s - 1)), w0) := by
    have e : (if ((s : Nat) : Int) > 1 then ((s : Nat) : Int) else 1) = ((s - 1 + 1 : Nat) : Int) := by split <;> omega
    have s1 : smallI ((s - 1 + 1 : Nat) : Int) = true := smallI_of (by omega) (by omega)
    have s2 : smallI (((m : Nat) : Int) + 1) = true := smallI_of (by omega) (by omega)
    have t : (((m : Nat) : Int) + 1 - ((s - 1 + 1 : Nat) : Int)).toNat = m - (s - 1) := by omega
    simp only [runM, runS, env0, flD, cal, sSeq, sIf, sRet, sRetN, sDrop, sAsg, sOwn, sFrz, frz, sPar, sPar3, sNx, sNo, sBk, sCt, sApp, sExt, sSetIx, sAug, sFor, sWhile, m1, m2, mC, mVar, mLook, mAnd, mOr, mNot, mIte, mB, mV, mTru, dTru, mAndV, mOrV, mNotV, mNil, mCons, mTup, mLst, mF, mFS, mItems, mRng, mRng1, mRng2, mRng3, dRng1, dRng2, dRng3, mEnum, mZip, mCut, mNoP, mPt, mRev, mNeg, dNeg, dRev, dCut, mLc, mYes, pName, pTup, pNil, pCons, wipeS, dAdd, dSub, dMul, dDiv, dMod, dMulI, dAddI, dCmp, dIsN, dNotN, isNone, dLenX, dLen, seqOf, dAbs, dMax2, dMin2, dInt, dTuple, dList, dCatL, dRepL, mSt, mStLen, mStCell, sSt, sSt3, drwGet, drwSet, mCh2, mCh3, mCount, dCount, Option.bind_some, Option.map_some, Option.bind_none, Option.map_none, List.getElem?_cons_zero, List.getElem?_cons_succ, List.set_cons_zero, List.set_cons_succ, List.map_cons, List.map_nil, List.cons_append, List.nil_append, List.replicate_succ, List.replicate_zero, List.length_cons, List.length_nil, if_true, if_false, reduceIte, Bool.false_eq_true, Bool.not_true, Bool.not_false, decide_true, decide_false, e, s1, s2, t, and_self]
  rw [seq_nx (S1 := Eg c s m (.val (bestD c s ((List.range m).find? (bP c s m)))) d' x' y') (w1 := w0) (by
    unfold sFor
    rw [rg, Option.bind_some]
    exact lp)]
  cases (List.range m).find? (bP c s m) with
  | none => simp only [Eg, bestD, upD, runM, runS, env0, flD, cal, sSeq, sIf, sRet, sRetN, sDrop, sAsg, sOwn, sFrz, frz, sPar, sPar3, sNx, sNo, sBk, sCt, sApp, sExt, sSetIx, sAug, sFor, sWhile, m1, m2, mC, mVar, mLook, mAnd, mOr, mNot, mIte, mB, mV, mTru, dTru, mAndV, mOrV, mNotV, mNil, mCons, mTup, mLst, mF, mFS, mItems, mRng, mRng1, mRng2, mRng3, dRng1, dRng2, dRng3, mEnum, mZip, mCut, mNoP, mPt, mRev, mNeg, dNeg, dRev, dCut, mLc, mYes, pName, pTup, pNil, pCons, wipeS, dAdd, dSub, dMul, dDiv, dMod, dMulI, dAddI, dCmp, dIsN, dNotN, isNone, dLenX, dLen, seqOf, dAbs, dMax2, dMin2, dInt, dTuple, dList, dCatL, dRepL, mSt, mStLen, mStCell, sSt, sSt3, drwGet, drwSet, mCh2, mCh3, mCount, dCount, Option.bind_some, Option.map_some, Option.bind_none, Option.map_none, List.getElem?_cons_zero, List.getElem?_cons_succ, List.set_cons_zero, List.set_cons_succ, List.map_cons, List.map_nil, List.cons_append, List.nil_append, List.replicate_succ, List.replicate_zero, List.length_cons, List.length_nil, if_true, if_false, reduceIte, Bool.false_eq_true, Bool.not_true, Bool.not_false, decide_true, decide_false]
  | some b => simp only [Eg, bestD, upD, runM, runS, env0, flD, cal, sSeq, sIf, sRet, sRetN, sDrop, sAsg, sOwn, sFrz, frz, sPar, sPar3, sNx, sNo, sBk, sCt, sApp, sExt, sSetIx, sAug, sFor, sWhile, m1, m2, mC, mVar, mLook, mAnd, mOr, mNot, mIte, mB, mV, mTru, dTru, mAndV, mOrV, mNotV, mNil, mCons, mTup, mLst, mF, mFS, mItems, mRng, mRng1, mRng2, mRng3, dRng1, dRng2, dRng3, mEnum, mZip, mCut, mNoP, mPt, mRev, mNeg, dNeg, dRev, dCut, mLc, mYes, pName, pTup, pNil, pCons, wipeS, dAdd, dSub, dMul, dDiv, dMod, dMulI, dAddI, dCmp, dIsN, dNotN, isNone, dLenX, dLen, seqOf, dAbs, dMax2, dMin2, dInt, dTuple, dList, dCatL, dRepL, mSt, mStLen, mStCell, sSt, sSt3, drwGet, drwSet, mCh2, mCh3, mCount, dCount, Option.bind_some, Option.map_some, Option.bind_none, Option.map_none, List.getElem?_cons_zero, List.getElem?_cons_succ, List.set_cons_zero, List.set_cons_succ, List.map_cons, List.map_nil, List.cons_append, List.nil_append, List.replicate_succ, List.replicate_zero, List.length_cons, List.length_nil, if_true, if_false, reduceIte, Bool.false_eq_true, Bool.not_true, Bool.not_false, decide_true, decide_false, ix3_2]
end K70

set_option Elab.async false
set_option linter.all false
set_option maxRecDepth 100000
set_option maxHeartbeats 4000000
set_option exponentiation.threshold 10000
namespace K70
open PySem PySem.Spec PyProof.Rows L2 Mini
/-! ## dies_bounds -/
theorem ev_check_part {a b : Nat} (h1 : 1 ≤ a) (h2 : a ≤ b) (h3 : b ≤ 1000) (hc : Nat.Coprime a b) : G_check_part [prD a b] = some .none := by
  have it := isi_tup [.int (a : Nat), .int (b : Nat)] w0 [.val (prD a b), .no] rfl
  have hl : lcGo (pName 1) mYes (mF (cal 1 G_is_integer) (mCons (mVar 1) mNil)) [.val (prD a b), .no] [.int (a : Nat), .int (b : Nat)] w0 = some ([.bool true, .bool true], w0) := rfl
  have dl : dLenX [prD a b] = some (.int 2) := rfl
  have l2 : (2 : Nat) ≤ LB := by decide
  have al : dAll [.list [.bool true, .bool true]] = some (.bool true) := rfl
  have a1 : (1 : Int) ≤ ((a : Nat) : Int) := by omega
  have a2 : ((a : Nat) : Int) ≤ ((b : Nat) : Int) := by omega
  have a3 : ((b : Nat) : Int) ≤ 1000 := by omega
  have q := ev_quotient (u := a) (d := b) (up_MB (dn_MB (by omega))) (by omega) (up_MB (dn_MB (by omega)))
  rw [frac_self hc] at q
  have ne := dNe_refl (shp_pr a b)
  simp only [prD] at it hl dl q ne
  have z2 : ((2 : Nat) : Int) = 2 := rfl
  simp only [G_check_part, m_check_part, prD, runM, runS, env0, flD, cal, sSeq, sIf, sRet, sRetN, sDrop, sAsg, sOwn, sFrz, frz, sPar, sPar3, sNx, sNo, sBk, sCt, sApp, sExt, sSetIx, sAug, sFor, sWhile, m1, m2, mC, mVar, mLook, mAnd, mOr, mNot, mIte, mB, mV, mTru, dTru, mAndV, mOrV, mNotV, mNil, mCons, mTup, mLst, mF, mFS, mItems, mRng, mRng1, mRng2, mRng3, dRng1, dRng2, dRng3, mEnum, mZip, mCut, mNoP, mPt, mRev, mNeg, dNeg, dRev, dCut, mLc, mYes, pName, pTup, pNil, pCons, wipeS, dAdd, dSub, dMul, dDiv, dMod, dMulI, dAddI, dCmp, dIsN, dNotN, isNone, dLenX, dLen, seqOf, dAbs, dMax2, dMin2, dInt, dTuple, dList, dCatL, dRepL, mSt, mStLen, mStCell, sSt, sSt3, drwGet, drwSet, mCh2, mCh3, mCount, dCount, Option.bind_some, Option.map_some, Option.bind_none, Option.map_none, List.getElem?_cons_zero, List.getElem?_cons_succ, List.set_cons_zero, List.set_cons_succ, List.map_cons, List.map_nil, List.cons_append, List.nil_append, List.replicate_succ, List.replicate_zero, List.length_cons, List.length_nil, if_true, if_false, reduceIte, Bool.false_eq_true, Bool.not_true, Bool.not_false, decide_true, decide_false, it, hl, dl, if_pos l2, al, dNe_int, z2, mCh3, ix_pr0, ix_pr1, a1, a2, a3, q, ne, Nat.zero_add, Nat.reduceAdd]
def lowL (c s j : Nat) : List Nat := ((List.range (j + 2)).take (s + 1)).map (r (j + 1) c)
def highL (c s j : Nat) : List Nat := ((List.range (j + 2)).drop s).map (r (j + 1) c)
theorem take_sum_le (l : List Nat) (k : Nat) : (l.take k).sum ≤ l.sum ∧ (l.drop k).sum ≤ l.sum := by
  have e : (l.take k).sum + (l.drop k).sum = l.sum := by rw [← List.sum_append, List.take_append_drop]
  omega
theorem low_le (c s j : Nat) : (lowL c s j).sum ≤ wN c j := by
  have h := (take_sum_le ((List.range (j + 2)).map (r (j + 1) c)) (s + 1)).1
  rw [← List.map_take, S_range, S_row] at h
  exact h
theorem high_le (c s j : Nat) : (highL c s j).sum ≤ wN c j := by
  have h := (take_sum_le ((List.range (j + 2)).map (r (j + 1) c)) s).2
  rw [← List.map_drop, S_range, S_row] at h
  exact h
theorem cut_low {xs : List PyData} {s : Nat} (h : s < xs.length) : Mini.cutD xs none (some ((s : Nat) + 1 : Int)) = xs.take (s + 1) := by
  unfold Mini.cutD
  rw [HT.sIx_none, show ((s : Int) + 1) = ((s + 1 : Nat) : Int) from by omega, HT.sIx_nat, Nat.min_eq_left (by omega), List.drop_zero, Nat.sub_zero]
theorem cut_high {xs : List PyData} {s : Nat} (h : s < xs.length) : Mini.cutD xs (some (s : Nat)) none = xs.drop s := by
  unfold Mini.cutD
  rw [HT.sIx_none, HT.sIx_nat, Nat.min_eq_left (by omega), List.take_of_length_le (by rw [List.length_drop]; exact Nat.le_refl _)]
def gP (c s p j : Nat) : Bool := decide (p * wN c j ≤ (lowL c s j).sum * 20) && decide (p * wN c j ≤ (highL c s j).sum * 20)
theorem frac_le {p n W : Nat} : fU p 20 * W ≤ n * fD p 20 ↔ p * W ≤ n * 20 := by
  have c := fr_cross p 20
  have d := fD_pos (u := p) (d := 20) (by decide)
  constructor
  · intro h
    refine Nat.le_of_mul_le_mul_right (c := fD p 20) ?_ d
    calc p * W * fD p 20 = (p * fD p 20) * W := by ac_rfl
      _ = (fU p 20 * W) * 20 := by rw [← c]; ac_rfl
      _ ≤ (n * fD p 20) * 20 := Nat.mul_le_mul_right _ h
      _ = n * 20 * fD p 20 := by ac_rfl
  · intro h
    refine Nat.le_of_mul_le_mul_right (c := 20) ?_ (by decide)
    calc fU p 20 * W * 20 = (fU p 20 * 20) * W := by ac_rfl
      _ = (p * W) * fD p 20 := by rw [c]; ac_rfl
      _ ≤ (n * 20) * fD p 20 := Nat.mul_le_mul_right _ h
      _ = n * fD p 20 * 20 := by ac_rfl
def goodL (c s p j n : Nat) : List PyData := (((List.range n).map (j + ·)).filter (gP c s p)).map fun k => .int ((k + 1 : Nat) : Int)
theorem goodL_succ (c s p j n : Nat) : goodL c s p j (n + 1) = (if gP c s p j = true then [.int ((j + 1 : Nat) : Int)] else []) ++ goodL c s p (j + 1) n := by
  have hr : (List.range (n + 1)).map (j + ·) = j :: (List.range n).map (j + 1 + ·) := by
    rw [List.range_succ_eq_map, List.map_cons, List.map_map]
    congr 1
    refine List.map_congr_left fun x _ => ?_
    simp only [Function.comp]; omega
  unfold goodL
  rw [hr]
  by_cases h : gP c s p j = true
  · rw [List.filter_cons_of_pos h, if_pos h]; rfl
  · rw [List.filter_cons_of_neg h, if_neg h]; rfl
def Eh (c s p m : Nat) (good : List PyData) (dies row wh low high : Sl) : SEnv := [.val (.int c), .val (.int s), .val (frac p 20), .val (.int m), .own (.list good), dies, row, wh, low, high]
def mBndB : MS := (sSeq (sAsg (mF (cal 2 G_ways_table) (mCons (mVar 5) (mCons (mVar 0) mNil))) (pTup (pCons (pName 6) (pCons (pName 7) pNil))))
    (sSeq (sPar 8 9 (mCons (mF dSum (mCons (mCut (mLook 6) mNoP (mPt (m2 dAdd (mLook 1) (mC (.int 1))))) mNil)) (mCons (mF dSum (mCons (mCut (mLook 6) (mPt (mVar 1)) mNoP) mNil)) mNil)))
    (sIf (mB (m2 dGe (m2 dMul (mF dMin2 (mCons (mLook 8) (mCons (mLook 9) mNil))) (m2 dIx (mLook 2) (mC (.int 1)))) (m2 dMul (m2 dIx (mLook 2) (mC (.int 0))) (mLook 7))))
    (sApp 4 (mVar 5)) sNx)))
theorem bnd_step {c s p j m : Nat} {good : List PyData} (hc : c ≤ 60) (hj : j < 40) (hs : s ≤ j + 1) (hp : p ≤ 20) (hg : good.length ≤ 100) (x y z u : Sl) : ∃ x' y' z' u', mBndB (Eh c s p m good (.val (.int ((j + 1 : Nat) : Int))) x y z u) w0 = some (.nx, Eh c s p m (good ++ if gP c s p j = true then [.int ((j + 1 : Nat) : Int)] else []) (.val (.int ((j + 1 : Nat) : Int))) x' y' z' u', w0) := by
  have q3 := ev_ways_table (d := j + 1) (c := c) (by omega) (by omega)
  have cast : (((j + 1 : Nat) : Int) ^ c) = ((wN c j : Nat) : Int) := (Int.natCast_pow (j + 1) c).symm
  rw [cast, wRow_r, List.map_map] at q3
  have c1 := cut_low (xs := (List.range (j + 1 + 1)).map (PyData.int ∘ fun k => ((r (j + 1) c k : Nat) : Int))) (s := s) (by rw [List.length_map, List.length_range]; omega)
  have c2 := cut_high (xs := (List.range (j + 1 + 1)).map (PyData.int ∘ fun k => ((r (j + 1) c k : Nat) : Int))) (s := s) (by rw [List.length_map, List.length_range]; omega)
  rw [← List.map_take] at c1
  rw [← List.map_drop] at c2
  have d1 := dSum_nats (r (j + 1) c) ((List.range (j + 1 + 1)).take (s + 1))
  have d2 := dSum_nats (r (j + 1) c) ((List.range (j + 1 + 1)).drop s)
  have d1' : dSum [.list (((List.range (j + 1 + 1)).take (s + 1)).map (PyData.int ∘ fun k => ((r (j + 1) c k : Nat) : Int)))] = some (.int (((lowL c s j).sum : Nat) : Int)) := d1
  have d2' : dSum [.list (((List.range (j + 1 + 1)).drop s).map (PyData.int ∘ fun k => ((r (j + 1) c k : Nat) : Int)))] = some (.int (((highL c s j).sum : Nat) : Int)) := d2
  have hw := wN_le hj hc
  have lo := low_le c s j
  have hi := high_le c s j
  have fu : fU p 20 ≤ 20 := Nat.le_trans (fU_le p 20) hp
  have fd := fD_le p 20
  have emin : (if ((((highL c s j).sum : Nat) : Int)) < (((lowL c s j).sum : Nat) : Int) then ((((highL c s j).sum : Nat) : Int)) else (((lowL c s j).sum : Nat) : Int)) = ((min (lowL c s j).sum (highL c s j).sum : Nat) : Int) := by split <;> omega
  have m1 : mulOk ((min (lowL c s j).sum (highL c s j).sum : Nat) : Int) ((fD p 20 : Nat) : Int) := mulOk_r (by omega) (by omega)
  have m2' : mulOk ((fU p 20 : Nat) : Int) ((wN c j : Nat) : Int) := mulOk_l (by omega) (by omega)
  have eg : decide (((fU p 20 : Nat) : Int) * ((wN c j : Nat) : Int) ≤ ((min (lowL c s j).sum (highL c s j).sum : Nat) : Int) * ((fD p 20 : Nat) : Int)) = gP c s p j := by
    rw [← Int.natCast_mul, ← Int.natCast_mul]
    have k1 := frac_le (p := p) (n := (lowL c s j).sum) (W := wN c j)
    have k2 := frac_le (p := p) (n := (highL c s j).sum) (W := wN c j)
    have k3 := frac_le (p := p) (n := min (lowL c s j).sum (highL c s j).sum) (W := wN c j)
    unfold gP
    rw [← Bool.decide_and]
    refine decide_eq_decide.mpr ?_
    rw [Int.ofNat_le, k3]
    omega
  have lg : good.length + 1 ≤ LB := by show _ ≤ 1000000; omega
  refine ⟨.val (.list ((List.range (j + 1 + 1)).map (PyData.int ∘ fun k => ((r (j + 1) c k : Nat) : Int)))), .val (.int ((wN c j : Nat) : Int)), .val (.int (((lowL c s j).sum : Nat) : Int)), .val (.int (((highL c s j).sum : Nat) : Int)), ?_⟩
  unfold mBndB
  rw [seq_nx (S1 := Eh c s p m good (.val (.int ((j + 1 : Nat) : Int))) (.val (.list ((List.range (j + 1 + 1)).map (PyData.int ∘ fun k => ((r (j + 1) c k : Nat) : Int))))) (.val (.int ((wN c j : Nat) : Int))) z u) (w1 := w0) (by simp only [Eh, runM, runS, env0, flD, cal, sSeq, sIf, sRet, sRetN, sDrop, sAsg, sOwn, sFrz, frz, sPar, sPar3, sNx, sNo, sBk, sCt, sApp, sExt, sSetIx, sAug, sFor, sWhile, m1, m2, mC, mVar, mLook, mAnd, mOr, mNot, mIte, mB, mV, mTru, dTru, mAndV, mOrV, mNotV, mNil, mCons, mTup, mLst, mF, mFS, mItems, mRng, mRng1, mRng2, mRng3, dRng1, dRng2, dRng3, mEnum, mZip, mCut, mNoP, mPt, mRev, mNeg, dNeg, dRev, dCut, mLc, mYes, pName, pTup, pNil, pCons, wipeS, dAdd, dSub, dMul, dDiv, dMod, dMulI, dAddI, dCmp, dIsN, dNotN, isNone, dLenX, dLen, seqOf, dAbs, dMax2, dMin2, dInt, dTuple, dList, dCatL, dRepL, mSt, mStLen, mStCell, sSt, sSt3, drwGet, drwSet, mCh2, mCh3, mCount, dCount, Option.bind_some, Option.map_some, Option.bind_none, Option.map_none, List.getElem?_cons_zero, List.getElem?_cons_succ, List.set_cons_zero, List.set_cons_succ, List.map_cons, List.map_nil, List.cons_append, List.nil_append, List.replicate_succ, List.replicate_zero, List.length_cons, List.length_nil, if_true, if_false, reduceIte, Bool.false_eq_true, Bool.not_true, Bool.not_false, decide_true, decide_false, q3, Nat.zero_add, Nat.reduceAdd])]
  rw [seq_nx (S1 := Eh c s p m good (.val (.int ((j + 1 : Nat) : Int))) (.val (.list ((List.range (j + 1 + 1)).map (PyData.int ∘ fun k => ((r (j + 1) c k : Nat) : Int))))) (.val (.int ((wN c j : Nat) : Int))) (.val (.int (((lowL c s j).sum : Nat) : Int))) (.val (.int (((highL c s j).sum : Nat) : Int)))) (w1 := w0) (by
    simp only [Eh, runM, runS, env0, flD, cal, sSeq, sIf, sRet, sRetN, sDrop, sAsg, sOwn, sFrz, frz, sPar, sPar3, sNx, sNo, sBk, sCt, sApp, sExt, sSetIx, sAug, sFor, sWhile, m1, m2, mC, mVar, mLook, mAnd, mOr, mNot, mIte, mB, mV, mTru, dTru, mAndV, mOrV, mNotV, mNil, mCons, mTup, mLst, mF, mFS, mItems, mRng, mRng1, mRng2, mRng3, dRng1, dRng2, dRng3, mEnum, mZip, mCut, mNoP, mPt, mRev, mNeg, dNeg, dRev, dCut, mLc, mYes, pName, pTup, pNil, pCons, wipeS, dAdd, dSub, dMul, dDiv, dMod, dMulI, dAddI, dCmp, dIsN, dNotN, isNone, dLenX, dLen, seqOf, dAbs, dMax2, dMin2, dInt, dTuple, dList, dCatL, dRepL, mSt, mStLen, mStCell, sSt, sSt3, drwGet, drwSet, mCh2, mCh3, mCount, dCount, Option.bind_some, Option.map_some, Option.bind_none, Option.map_none, List.getElem?_cons_zero, List.getElem?_cons_succ, List.set_cons_zero, List.set_cons_succ, List.map_cons, List.map_nil, List.cons_append, List.nil_append, List.replicate_succ, List.replicate_zero, List.length_cons, List.length_nil, if_true, if_false, reduceIte, Bool.false_eq_true, Bool.not_true, Bool.not_false, decide_true, decide_false, c1, c2, d1', d2'])]
  cases hgp : gP c s p j with
  | true =>
    rw [hgp] at eg
    simp only [Eh, frac, prD, runM, runS, env0, flD, cal, sSeq, sIf, sRet, sRetN, sDrop, sAsg, sOwn, sFrz, frz, sPar, sPar3, sNx, sNo, sBk, sCt, sApp, sExt, sSetIx, sAug, sFor, sWhile, m1, m2, mC, mVar, mLook, mAnd, mOr, mNot, mIte, mB, mV, mTru, dTru, mAndV, mOrV, mNotV, mNil, mCons, mTup, mLst, mF, mFS, mItems, mRng, mRng1, mRng2, mRng3, dRng1, dRng2, dRng3, mEnum, mZip, mCut, mNoP, mPt, mRev, mNeg, dNeg, dRev, dCut, mLc, mYes, pName, pTup, pNil, pCons, wipeS, dAdd, dSub, dMul, dDiv, dMod, dMulI, dAddI, dCmp, dIsN, dNotN, isNone, dLenX, dLen, seqOf, dAbs, dMax2, dMin2, dInt, dTuple, dList, dCatL, dRepL, mSt, mStLen, mStCell, sSt, sSt3, drwGet, drwSet, mCh2, mCh3, mCount, dCount, Option.bind_some, Option.map_some, Option.bind_none, Option.map_none, List.getElem?_cons_zero, List.getElem?_cons_succ, List.set_cons_zero, List.set_cons_succ, List.map_cons, List.map_nil, List.cons_append, List.nil_append, List.replicate_succ, List.replicate_zero, List.length_cons, List.length_nil, if_true, if_false, reduceIte, Bool.false_eq_true, Bool.not_true, Bool.not_false, decide_true, decide_false, ix_pr0, ix_pr1, emin, if_pos m1, if_pos m2', eg, if_pos lg]
  | false =>
    rw [hgp] at eg
    simp only [Eh, frac, prD, runM, runS, env0, flD, cal, sSeq, sIf, sRet, sRetN, sDrop, sAsg, sOwn, sFrz, frz, sPar, sPar3, sNx, sNo, sBk, sCt, sApp, sExt, sSetIx, sAug, sFor, sWhile, m1, m2, mC, mVar, mLook, mAnd, mOr, mNot, mIte, mB, mV, mTru, dTru, mAndV, mOrV, mNotV, mNil, mCons, mTup, mLst, mF, mFS, mItems, mRng, mRng1, mRng2, mRng3, dRng1, dRng2, dRng3, mEnum, mZip, mCut, mNoP, mPt, mRev, mNeg, dNeg, dRev, dCut, mLc, mYes, pName, pTup, pNil, pCons, wipeS, dAdd, dSub, dMul, dDiv, dMod, dMulI, dAddI, dCmp, dIsN, dNotN, isNone, dLenX, dLen, seqOf, dAbs, dMax2, dMin2, dInt, dTuple, dList, dCatL, dRepL, mSt, mStLen, mStCell, sSt, sSt3, drwGet, drwSet, mCh2, mCh3, mCount, dCount, Option.bind_some, Option.map_some, Option.bind_none, Option.map_none, List.getElem?_cons_zero, List.getElem?_cons_succ, List.set_cons_zero, List.set_cons_succ, List.map_cons, List.map_nil, List.cons_append, List.nil_append, List.replicate_succ, List.replicate_zero, List.length_cons, List.length_nil, if_true, if_false, reduceIte, Bool.false_eq_true, Bool.not_true, Bool.not_false, decide_true, decide_false, ix_pr0, ix_pr1, emin, if_pos m1, if_pos m2', eg, List.append_nil]
theorem bnd_loop {c s p m : Nat} (hc : c ≤ 60) (hp : p ≤ 20) : ∀ (n j : Nat) (good : List PyData) (d x y z u : Sl), j + n ≤ 40 → s ≤ j + 1 → good.length + n ≤ 100 → ∃ d' x' y' z' u', forGo (pName 5) mBndB (rngD ((j + 1 : Nat) : Int) 1 n) (Eh c s p m good d x y z u) w0 = some (.nx, Eh c s p m (good ++ goodL c s p j n) d' x' y' z' u', w0)
  | 0, j, good, d, x, y, z, u, _, _, _ => ⟨d, x, y, z, u, by rw [show goodL c s p j 0 = [] from rfl, List.append_nil]; rfl⟩
  | n + 1, j, good, d, x, y, z, u, h, hs, hg => by
    obtain ⟨x1, y1, z1, u1, st⟩ := bnd_step (m := m) (good := good) hc (show j < 40 by omega) hs hp (by omega) x y z u
    obtain ⟨d', x', y', z', u', ih⟩ := bnd_loop (s := s) (m := m) hc hp n (j + 1) (good ++ if gP c s p j = true then [.int ((j + 1 : Nat) : Int)] else []) (.val (.int ((j + 1 : Nat) : Int))) x1 y1 z1 u1 (by omega) (by omega) (by
      rw [List.length_append]
      split
      · rw [List.length_singleton]; omega
      · rw [List.length_nil]; omega)
    refine ⟨d', x', y', z', u', ?_⟩
    rw [rngD_succ, forGo_cons]
    rw [show pName 5 (.int ((j + 1 : Nat) : Int)) (Eh c s p m good d x y z u) = some (Eh c s p m good (.val (.int ((j + 1 : Nat) : Int))) x y z u) from rfl, Option.bind_some, st, Option.bind_some]
    have e1 : ((j + 1 : Nat) : Int) + 1 = ((j + 1 + 1 : Nat) : Int) := by omega
    rw [goodL_succ, ← List.append_assoc, ← ih, e1]
def endsD (xs : List PyData) : PyData := match xs with
  | [] => .none
  | x :: xs => .tuple [x, (x :: xs).getLast (List.cons_ne_nil _ _)]
theorem ends_last (x : PyData) (xs : List PyData) : dIx (.list (x :: xs)) (.int (-1)) = some ((x :: xs).getLast (List.cons_ne_nil _ _)) := by
  have e := List.dropLast_concat_getLast (List.cons_ne_nil x xs)
  have k := ix_last (xs := (x :: xs).dropLast) (d := (x :: xs).getLast (List.cons_ne_nil x xs))
  rw [e] at k
  exact k
theorem ends_first (x : PyData) (xs : List PyData) : dIx (.list (x :: xs)) (.int 0) = some x := by
  have k := ix_nat (xs := x :: xs) (k := 0) (by rw [List.length_cons]; omega)
  exact k
theorem ev_bounds {c s p m : Nat} (hc : c ≤ 60) (hs : s ≤ 40) (h1 : 1 ≤ m) (hm : m ≤ 40) (hp1 : 1 ≤ p) (hp : p ≤ 20) : G_dies_bounds [.int c, .int s, frac p 20, .int m] = some (endsD (goodL c s p (s - 1) (m - (s - 1)))) := by
  have q1 := ev_check_coins (i := c) (by omega) (by omega)
  have q2 := ev_check_seen (i := s) (by omega) (by omega)
  have q3 := ev_check_dies (i := m) (by omega) (by omega) (.str "most")
  have fb : fU p 20 ≤ fD p 20 := by
    have h := fr_cross p 20
    have d := fD_pos (u := p) (d := 20) (by decide)
    have k : p * fD p 20 ≤ 20 * fD p 20 := Nat.mul_le_mul_right _ hp
    omega
  have fa : 1 ≤ fU p 20 := by
    have h := fr_cross p 20
    have d := fD_pos (u := p) (d := 20) (by decide)
    have k : 0 < p * fD p 20 := Nat.mul_pos hp1 d
    omega
  have q4 := ev_check_part (a := fU p 20) (b := fD p 20) fa fb (Nat.le_trans (fD_le p 20) (by decide)) (fr_cop (by decide))
  have q4' : G_check_part [frac p 20] = some .none := q4
  obtain ⟨d', x', y', z', u', lp⟩ := bnd_loop (m := m) (s := s) hc hp (m - (s - 1)) (s - 1) [] .no .no .no .no .no (by omega) (by omega) (by rw [List.length_nil]; omega)
  rw [List.nil_append] at lp
  unfold G_dies_bounds runM m_dies_bounds
  rw [show env0 6 [.int (c : Nat), .int (s : Nat), frac p 20, .int (m : Nat)] = [.val (.int c), .val (.int s), .val (frac p 20), .val (.int m), .no, .no, .no, .no, .no, .no] from rfl]
  rw [seq_nx (S1 := [.val (.int c), .val (.int s), .val (frac p 20), .val (.int m), .no, .no, .no, .no, .no, .no]) (w1 := w0) (by simp only [runM, runS, env0, flD, cal, sSeq, sIf, sRet, sRetN, sDrop, sAsg, sOwn, sFrz, frz, sPar, sPar3, sNx, sNo, sBk, sCt, sApp, sExt, sSetIx, sAug, sFor, sWhile, m1, m2, mC, mVar, mLook, mAnd, mOr, mNot, mIte, mB, mV, mTru, dTru, mAndV, mOrV, mNotV, mNil, mCons, mTup, mLst, mF, mFS, mItems, mRng, mRng1, mRng2, mRng3, dRng1, dRng2, dRng3, mEnum, mZip, mCut, mNoP, mPt, mRev, mNeg, dNeg, dRev, dCut, mLc, mYes, pName, pTup, pNil, pCons, wipeS, dAdd, dSub, dMul, dDiv, dMod, dMulI, dAddI, dCmp, dIsN, dNotN, isNone, dLenX, dLen, seqOf, dAbs, dMax2, dMin2, dInt, dTuple, dList, dCatL, dRepL, mSt, mStLen, mStCell, sSt, sSt3, drwGet, drwSet, mCh2, mCh3, mCount, dCount, Option.bind_some, Option.map_some, Option.bind_none, Option.map_none, List.getElem?_cons_zero, List.getElem?_cons_succ, List.set_cons_zero, List.set_cons_succ, List.map_cons, List.map_nil, List.cons_append, List.nil_append, List.replicate_succ, List.replicate_zero, List.length_cons, List.length_nil, if_true, if_false, reduceIte, Bool.false_eq_true, Bool.not_true, Bool.not_false, decide_true, decide_false, q1])]
  rw [seq_nx (S1 := [.val (.int c), .val (.int s), .val (frac p 20), .val (.int m), .no, .no, .no, .no, .no, .no]) (w1 := w0) (by simp only [runM, runS, env0, flD, cal, sSeq, sIf, sRet, sRetN, sDrop, sAsg, sOwn, sFrz, frz, sPar, sPar3, sNx, sNo, sBk, sCt, sApp, sExt, sSetIx, sAug, sFor, sWhile, m1, m2, mC, mVar, mLook, mAnd, mOr, mNot, mIte, mB, mV, mTru, dTru, mAndV, mOrV, mNotV, mNil, mCons, mTup, mLst, mF, mFS, mItems, mRng, mRng1, mRng2, mRng3, dRng1, dRng2, dRng3, mEnum, mZip, mCut, mNoP, mPt, mRev, mNeg, dNeg, dRev, dCut, mLc, mYes, pName, pTup, pNil, pCons, wipeS, dAdd, dSub, dMul, dDiv, dMod, dMulI, dAddI, dCmp, dIsN, dNotN, isNone, dLenX, dLen, seqOf, dAbs, dMax2, dMin2, dInt, dTuple, dList, dCatL, dRepL, mSt, mStLen, mStCell, sSt, sSt3, drwGet, drwSet, mCh2, mCh3, mCount, dCount, Option.bind_some, Option.map_some, Option.bind_none, Option.map_none, List.getElem?_cons_zero, List.getElem?_cons_succ, List.set_cons_zero, List.set_cons_succ, List.map_cons, List.map_nil, List.cons_append, List.nil_append, List.replicate_succ, List.replicate_zero, List.length_cons, List.length_nil, if_true, if_false, reduceIte, Bool.false_eq_true, Bool.not_true, Bool.not_false, decide_true, decide_false, q2])]
  rw [seq_nx (S1 := [.val (.int c), .val (.int s), .val (frac p 20), .val (.int m), .no, .no, .no, .no, .no, .no]) (w1 := w0) (by simp only [runM, runS, env0, flD, cal, sSeq, sIf, sRet, sRetN, sDrop, sAsg, sOwn, sFrz, frz, sPar, sPar3, sNx, sNo, sBk, sCt, sApp, sExt, sSetIx, sAug, sFor, sWhile, m1, m2, mC, mVar, mLook, mAnd, mOr, mNot, mIte, mB, mV, mTru, dTru, mAndV, mOrV, mNotV, mNil, mCons, mTup, mLst, mF, mFS, mItems, mRng, mRng1, mRng2, mRng3, dRng1, dRng2, dRng3, mEnum, mZip, mCut, mNoP, mPt, mRev, mNeg, dNeg, dRev, dCut, mLc, mYes, pName, pTup, pNil, pCons, wipeS, dAdd, dSub, dMul, dDiv, dMod, dMulI, dAddI, dCmp, dIsN, dNotN, isNone, dLenX, dLen, seqOf, dAbs, dMax2, dMin2, dInt, dTuple, dList, dCatL, dRepL, mSt, mStLen, mStCell, sSt, sSt3, drwGet, drwSet, mCh2, mCh3, mCount, dCount, Option.bind_some, Option.map_some, Option.bind_none, Option.map_none, List.getElem?_cons_zero, List.getElem?_cons_succ, List.set_cons_zero, List.set_cons_succ, List.map_cons, List.map_nil, List.cons_append, List.nil_append, List.replicate_succ, List.replicate_zero, List.length_cons, List.length_nil, if_true, if_false, reduceIte, Bool.false_eq_true, Bool.not_true, Bool.not_false, decide_true, decide_false, q4'])]
  rw [seq_nx (S1 := [.val (.int c), .val (.int s), .val (frac p 20), .val (.int m), .no, .no, .no, .no, .no, .no]) (w1 := w0) (by simp only [runM, runS, env0, flD, cal, sSeq, sIf, sRet, sRetN, sDrop, sAsg, sOwn, sFrz, frz, sPar, sPar3, sNx, sNo, sBk, sCt, sApp, sExt, sSetIx, sAug, sFor, sWhile, m1, m2, mC, mVar, mLook, mAnd, mOr, mNot, mIte, mB, mV, mTru, dTru, mAndV, mOrV, mNotV, mNil, mCons, mTup, mLst, mF, mFS, mItems, mRng, mRng1, mRng2, mRng3, dRng1, dRng2, dRng3, mEnum, mZip, mCut, mNoP, mPt, mRev, mNeg, dNeg, dRev, dCut, mLc, mYes, pName, pTup, pNil, pCons, wipeS, dAdd, dSub, dMul, dDiv, dMod, dMulI, dAddI, dCmp, dIsN, dNotN, isNone, dLenX, dLen, seqOf, dAbs, dMax2, dMin2, dInt, dTuple, dList, dCatL, dRepL, mSt, mStLen, mStCell, sSt, sSt3, drwGet, drwSet, mCh2, mCh3, mCount, dCount, Option.bind_some, Option.map_some, Option.bind_none, Option.map_none, List.getElem?_cons_zero, List.getElem?_cons_succ, List.set_cons_zero, List.set_cons_succ, List.map_cons, List.map_nil, List.cons_append, List.nil_append, List.replicate_succ, List.replicate_zero, List.length_cons, List.length_nil, if_true, if_false, reduceIte, Bool.false_eq_true, Bool.not_true, Bool.not_false, decide_true, decide_false, q3, Nat.zero_add, Nat.reduceAdd])]
  rw [seq_nx (S1 := [.val (.int c), .val (.int s), .val (frac p 20), .val (.int m), .own (.list []), .no, .no, .no, .no, .no]) (w1 := w0) (by simp only [runM, runS, env0, flD, cal, sSeq, sIf, sRet, sRetN, sDrop, sAsg, sOwn, sFrz, frz, sPar, sPar3, sNx, sNo, sBk, sCt, sApp, sExt, sSetIx, sAug, sFor, sWhile, m1, m2, mC, mVar, mLook, mAnd, mOr, mNot, mIte, mB, mV, mTru, dTru, mAndV, mOrV, mNotV, mNil, mCons, mTup, mLst, mF, mFS, mItems, mRng, mRng1, mRng2, mRng3, dRng1, dRng2, dRng3, mEnum, mZip, mCut, mNoP, mPt, mRev, mNeg, dNeg, dRev, dCut, mLc, mYes, pName, pTup, pNil, pCons, wipeS, dAdd, dSub, dMul, dDiv, dMod, dMulI, dAddI, dCmp, dIsN, dNotN, isNone, dLenX, dLen, seqOf, dAbs, dMax2, dMin2, dInt, dTuple, dList, dCatL, dRepL, mSt, mStLen, mStCell, sSt, sSt3, drwGet, drwSet, mCh2, mCh3, mCount, dCount, Option.bind_some, Option.map_some, Option.bind_none, Option.map_none, List.getElem?_cons_zero, List.getElem?_cons_succ, List.set_cons_zero, List.set_cons_succ, List.map_cons, List.map_nil, List.cons_append, List.nil_append, List.replicate_succ, List.replicate_zero, List.length_cons, List.length_nil, if_true, if_false, reduceIte, Bool.false_eq_true, Bool.not_true, Bool.not_false, decide_true, decide_false]; rfl)]
  have rg : mRng2 (mCons (mF dMax2 (mCons (mC (.int 1)) (mCons (mLook 1) mNil))) (mCons (m2 dAdd (mLook 3) (mC (.int 1))) mNil)) [.val (.int c), .val (.int s), .val (frac p 20), .val (.int m), .own (.list []), .no, .no, .no, .no, .no] w0 = some (rngD ((s - 1 + 1 : Nat) : Int) 1 (m - (s - 1)), w0) := by
    have e : (if ((s : Nat) : Int) > 1 then ((s : Nat) : Int) else 1) = ((s - 1 + 1 : Nat) : Int) := by split <;> omega
    have s1 : smallI ((s - 1 + 1 : Nat) : Int) = true := smallI_of (by omega) (by omega)
    have s2 : smallI (((m : Nat) : Int) + 1) = true := smallI_of (by omega) (by omega)
    have t : (((m : Nat) : Int) + 1 - ((s - 1 + 1 : Nat) : Int)).toNat = m - (s - 1) := by omega
    simp only [runM, runS, env0, flD, cal, sSeq, sIf, sRet, sRetN, sDrop, sAsg, sOwn, sFrz, frz, sPar, sPar3, sNx, sNo, sBk, sCt, sApp, sExt, sSetIx, sAug, sFor, sWhile, m1, m2, mC, mVar, mLook, mAnd, mOr, mNot, mIte, mB, mV, mTru, dTru, mAndV, mOrV, mNotV, mNil, mCons, mTup, mLst, mF, mFS, mItems, mRng, mRng1, mRng2, mRng3, dRng1, dRng2, dRng3, mEnum, mZip, mCut, mNoP, mPt, mRev, mNeg, dNeg, dRev, dCut, mLc, mYes, pName, pTup, pNil, pCons, wipeS, dAdd, dSub, dMul, dDiv, dMod, dMulI, dAddI, dCmp, dIsN, dNotN, isNone, dLenX, dLen, seqOf, dAbs, dMax2, dMin2, dInt, dTuple, dList, dCatL, dRepL, mSt, mStLen, mStCell, sSt, sSt3, drwGet, drwSet, mCh2, mCh3, mCount, dCount, Option.bind_some, Option.map_some, Option.bind_none, Option.map_none, List.getElem?_cons_zero, List.getElem?_cons_succ, List.set_cons_zero, List.set_cons_succ, List.map_cons, List.map_nil, List.cons_append, List.nil_append, List.replicate_succ, List.replicate_zero, List.length_cons, List.length_nil, if_true, if_false, reduceIte, Bool.false_eq_true, Bool.not_true, Bool.not_false, decide_true, decide_false, e, s1, s2, t, and_self]
  rw [seq_nx (S1 := Eh c s p m (goodL c s p (s - 1) (m - (s - 1))) d' x' y' z' u') (w1 := w0) (by
    unfold sFor
    rw [rg, Option.bind_some]
    exact lp)]
  have l2 : (2 : Nat) ≤ LB := by decide
  cases goodL c s p (s - 1) (m - (s - 1)) with
  | nil => simp only [Eh, runM, runS, env0, flD, cal, sSeq, sIf, sRet, sRetN, sDrop, sAsg, sOwn, sFrz, frz, sPar, sPar3, sNx, sNo, sBk, sCt, sApp, sExt, sSetIx, sAug, sFor, sWhile, m1, m2, mC, mVar, mLook, mAnd, mOr, mNot, mIte, mB, mV, mTru, dTru, mAndV, mOrV, mNotV, mNil, mCons, mTup, mLst, mF, mFS, mItems, mRng, mRng1, mRng2, mRng3, dRng1, dRng2, dRng3, mEnum, mZip, mCut, mNoP, mPt, mRev, mNeg, dNeg, dRev, dCut, mLc, mYes, pName, pTup, pNil, pCons, wipeS, dAdd, dSub, dMul, dDiv, dMod, dMulI, dAddI, dCmp, dIsN, dNotN, isNone, dLenX, dLen, seqOf, dAbs, dMax2, dMin2, dInt, dTuple, dList, dCatL, dRepL, mSt, mStLen, mStCell, sSt, sSt3, drwGet, drwSet, mCh2, mCh3, mCount, dCount, Option.bind_some, Option.map_some, Option.bind_none, Option.map_none, List.getElem?_cons_zero, List.getElem?_cons_succ, List.set_cons_zero, List.set_cons_succ, List.map_cons, List.map_nil, List.cons_append, List.nil_append, List.replicate_succ, List.replicate_zero, List.length_cons, List.length_nil, if_true, if_false, reduceIte, Bool.false_eq_true, Bool.not_true, Bool.not_false, decide_true, decide_false, endsD, List.isEmpty_nil]
  | cons x xs => simp only [Eh, runM, runS, env0, flD, cal, sSeq, sIf, sRet, sRetN, sDrop, sAsg, sOwn, sFrz, frz, sPar, sPar3, sNx, sNo, sBk, sCt, sApp, sExt, sSetIx, sAug, sFor, sWhile, m1, m2, mC, mVar, mLook, mAnd, mOr, mNot, mIte, mB, mV, mTru, dTru, mAndV, mOrV, mNotV, mNil, mCons, mTup, mLst, mF, mFS, mItems, mRng, mRng1, mRng2, mRng3, dRng1, dRng2, dRng3, mEnum, mZip, mCut, mNoP, mPt, mRev, mNeg, dNeg, dRev, dCut, mLc, mYes, pName, pTup, pNil, pCons, wipeS, dAdd, dSub, dMul, dDiv, dMod, dMulI, dAddI, dCmp, dIsN, dNotN, isNone, dLenX, dLen, seqOf, dAbs, dMax2, dMin2, dInt, dTuple, dList, dCatL, dRepL, mSt, mStLen, mStCell, sSt, sSt3, drwGet, drwSet, mCh2, mCh3, mCount, dCount, Option.bind_some, Option.map_some, Option.bind_none, Option.map_none, List.getElem?_cons_zero, List.getElem?_cons_succ, List.set_cons_zero, List.set_cons_succ, List.map_cons, List.map_nil, List.cons_append, List.nil_append, List.replicate_succ, List.replicate_zero, List.length_cons, List.length_nil, if_true, if_false, reduceIte, Bool.false_eq_true, Bool.not_true, Bool.not_false, decide_true, decide_false, endsD, List.isEmpty_cons, ends_first, ends_last, Nat.zero_add, Nat.reduceAdd, if_pos l2]
end K70

set_option Elab.async false
set_option linter.all false
set_option maxRecDepth 100000
set_option maxHeartbeats 4000000
set_option exponentiation.threshold 10000
namespace K70
open PySem PySem.Spec PyProof.Rows L2 Mini
/-! ## numbers_hold -/
theorem lc_natsF {p : MG} {t : MT} {e : ME} {S : SEnv} {w : Drw} {g f : Nat → PyData} {c : Nat → Bool} : ∀ {ks : List Nat}, (∀ k ∈ ks, ∃ S1, p (g k) S = some S1 ∧ t S1 w = some (c k, w) ∧ (c k = true → e S1 w = some (f k, w))) → lcGo p t e S (ks.map g) w = some ((ks.filter c).map f, w)
  | [], _ => rfl
  | k :: ks, h => by
    obtain ⟨S1, h1, h2, h3⟩ := h k List.mem_cons_self
    have ih := lc_natsF (ks := ks) fun x hx => h x (List.mem_cons_of_mem _ hx)
    rw [List.map_cons, lcGo_cons, h1, Option.bind_some, h2, Option.bind_some]
    cases hc : c k with
    | true =>
      rw [if_pos rfl, h3 hc, Option.bind_some, ih, List.filter_cons_of_pos hc]
      rfl
    | false =>
      rw [if_neg Bool.false_ne_true, ih, List.filter_cons_of_neg (by rw [hc]; exact Bool.false_ne_true)]
theorem rngD_0 (n : Nat) : rngD 0 1 n = (List.range n).map fun k => .int ((k : Nat) : Int) := by
  unfold rngD
  refine List.map_congr_left fun k _ => ?_
  congr 1; omega
theorem rngD_1 (n : Nat) : rngD 1 1 n = (List.range n).map fun k => .int ((k + 1 : Nat) : Int) := by
  unfold rngD
  refine List.map_congr_left fun k _ => ?_
  congr 1; omega
def En (c s m rows here best part good dies row wanted first turn : Sl) : SEnv := [.stt, c, s, m, rows, here, best, part, good, dies, row, wanted, first, turn, .no]
theorem frac_zero {W : Nat} (h : 0 < W) : frac 0 W = prD 0 1 := by
  unfold frac fU fD
  rw [Nat.gcd_zero_left, Nat.zero_div, Nat.div_self h]
theorem fU_pos {u W : Nat} (h : 0 < W) : 0 < fU u W ↔ 0 < u := by
  have c := fr_cross u W
  have d := fD_pos (u := u) h
  constructor
  · intro k
    have : 0 < fU u W * W := Nat.mul_pos k h
    rw [c] at this
    exact Nat.pos_of_mul_pos_right this
  · intro k
    have : 0 < u * fD u W := Nat.mul_pos k d
    rw [← c] at this
    exact Nat.pos_of_mul_pos_right this
def rowsL (m c : Nat) : List PyData := (List.range m).map fun j => .tuple (chD (j + 1) c)
def hereL (c s m : Nat) : List PyData := (List.range m).map fun j => frac (hN c s j) (wN c j)
theorem hw_MB {c s j : Nat} (hj : j < 40) (hc : c ≤ 60) : hN c s j ≤ MB ∧ wN c j ≤ MB := by
  have a := hN_le (c := c) (s := s) (j := j)
  have b := wN_le hj hc
  exact ⟨dn_MB (by omega), dn_MB (by omega)⟩
theorem here_get {c s m k : Nat} (h : k < m) : dIx (.list (hereL c s m)) (.int (k : Nat)) = some (frac (hN c s k) (wN c k)) := by
  unfold hereL
  rw [ix_nat (by rw [List.length_map, List.length_range]; exact h)]
  simp
theorem rows_get {m c k : Nat} (h : k < m) : dIx (.list (rowsL m c)) (.int (k : Nat)) = some (.tuple (chD (k + 1) c)) := by
  unfold rowsL
  rw [ix_nat (by rw [List.length_map, List.length_range]; exact h)]
  simp
theorem eqv_nil (xs : List PyData) : PyData.eqv (.list xs) (.list []) = xs.isEmpty := by
  cases xs <;> simp [PyData.eqv, PyData.eqvAll]
theorem rows_list {c m : Nat} {S : SEnv} {w : Drw} (hm : m ≤ 40) (hc : c ≤ 60) (h : ∀ v, mVar 1 (S.set 9 v) w = some (.int (c : Nat), w)) (h9 : ∀ v, mVar 9 (S.set 9 (.val v)) w = some (v, w)) (hp : ∀ v, pName 9 v S = some (S.set 9 (.val v))) :
    lcGo (pName 9) mYes (mF (cal 2 G_chances_seen) (mCons (mVar 9) (mCons (mVar 1) mNil))) S (rngD 1 1 m) w = some (rowsL m c, w) := by
  rw [rngD_1]
  refine lc_nats fun k hk => ⟨_, hp _, ?_⟩
  have hk := List.mem_range.mp hk
  have q := ev_chances_seen (d := k + 1) (c := c) (by omega) (by omega) hc
  simp only [mF, mCons, h9, h, mNil, Option.bind_some, Option.map_some, cal, List.length_cons, List.length_nil, Nat.zero_add, Nat.reduceAdd, if_true, q]
section
variable {c s m : Nat} (hc : c ≤ 60) (hs : s ≤ 40) (hm : m ≤ 40)
include hc hs hm
theorem here_list {w : Drw} {a b e f g h i j : Sl} : mLc (mItems (mLook 4)) (pName 13) mYes (mIte (mB (m2 dLt (mLook 2) (mF dLenX (mCons (mLook 13) mNil)))) (m2 dIx (mLook 13) (mLook 2)) (mTup (mCons (mC (.int 0)) (mCons (mC (.int 1)) mNil)))) [13] (En (.val (.int c)) (.val (.int s)) (.val (.int m)) (.val (.list (rowsL m c))) a b e f g h i j .no) w = some (.list (hereL c s m), w) := by
  unfold mLc
  show ((lcGo (pName 13) mYes _ (En (.val (.int c)) (.val (.int s)) (.val (.int m)) (.val (.list (rowsL m c))) a b e f g h i j .no) (rowsL m c) w).bind _) = _
  have l2 : (2 : Nat) ≤ LB := by decide
  unfold rowsL
  rw [lc_nats (f := fun j => frac (hN c s j) (wN c j)) fun k hk => ⟨_, rfl, by
    have hk := List.mem_range.mp hk
    by_cases hsk : s ≤ k + 1
    · have lt : ((s : Nat) : Int) < (((chD (k + 1) c).length : Nat) : Int) := by rw [chD_len]; omega
      have g := chD_get (c := c) (show s ≤ k + 1 from hsk)
      have e : hN c s k = r (k + 1) c s := if_pos hsk
      simp only [En, runM, runS, env0, flD, cal, sSeq, sIf, sRet, sRetN, sDrop, sAsg, sOwn, sFrz, frz, sPar, sPar3, sNx, sNo, sBk, sCt, sApp, sExt, sSetIx, sAug, sFor, sWhile, m1, m2, mC, mVar, mLook, mAnd, mOr, mNot, mIte, mB, mV, mTru, dTru, mAndV, mOrV, mNotV, mNil, mCons, mTup, mLst, mF, mFS, mItems, mRng, mRng1, mRng2, mRng3, dRng1, dRng2, dRng3, mEnum, mZip, mCut, mNoP, mPt, mRev, mNeg, dNeg, dRev, dCut, mLc, mYes, pName, pTup, pNil, pCons, wipeS, dAdd, dSub, dMul, dDiv, dMod, dMulI, dAddI, dCmp, dIsN, dNotN, isNone, dLenX, dLen, seqOf, dAbs, dMax2, dMin2, dInt, dTuple, dList, dCatL, dRepL, mSt, mStLen, mStCell, sSt, sSt3, drwGet, drwSet, mCh2, mCh3, mCount, dCount, Option.bind_some, Option.map_some, Option.bind_none, Option.map_none, List.getElem?_cons_zero, List.getElem?_cons_succ, List.set_cons_zero, List.set_cons_succ, List.map_cons, List.map_nil, List.cons_append, List.nil_append, List.replicate_succ, List.replicate_zero, List.length_cons, List.length_nil, if_true, if_false, reduceIte, Bool.false_eq_true, Bool.not_true, Bool.not_false, decide_true, decide_false, dLen_tup, lt, g, e, wN]
    · have lt : ¬ ((s : Nat) : Int) < (((chD (k + 1) c).length : Nat) : Int) := by rw [chD_len]; omega
      have e : hN c s k = 0 := if_neg hsk
      have z := frac_zero (wN_pos c k)
      simp only [En, runM, runS, env0, flD, cal, sSeq, sIf, sRet, sRetN, sDrop, sAsg, sOwn, sFrz, frz, sPar, sPar3, sNx, sNo, sBk, sCt, sApp, sExt, sSetIx, sAug, sFor, sWhile, m1, m2, mC, mVar, mLook, mAnd, mOr, mNot, mIte, mB, mV, mTru, dTru, mAndV, mOrV, mNotV, mNil, mCons, mTup, mLst, mF, mFS, mItems, mRng, mRng1, mRng2, mRng3, dRng1, dRng2, dRng3, mEnum, mZip, mCut, mNoP, mPt, mRev, mNeg, dNeg, dRev, dCut, mLc, mYes, pName, pTup, pNil, pCons, wipeS, dAdd, dSub, dMul, dDiv, dMod, dMulI, dAddI, dCmp, dIsN, dNotN, isNone, dLenX, dLen, seqOf, dAbs, dMax2, dMin2, dInt, dTuple, dList, dCatL, dRepL, mSt, mStLen, mStCell, sSt, sSt3, drwGet, drwSet, mCh2, mCh3, mCount, dCount, Option.bind_some, Option.map_some, Option.bind_none, Option.map_none, List.getElem?_cons_zero, List.getElem?_cons_succ, List.set_cons_zero, List.set_cons_succ, List.map_cons, List.map_nil, List.cons_append, List.nil_append, List.replicate_succ, List.replicate_zero, List.length_cons, List.length_nil, if_true, if_false, reduceIte, Bool.false_eq_true, Bool.not_true, Bool.not_false, decide_true, decide_false, dLen_tup, lt, e, z, prD, Nat.zero_add, Nat.reduceAdd, if_pos l2]
      rfl⟩, Option.bind_some]
  exact if_pos (by rw [List.length_map, List.length_range]; show m ≤ 1000000; omega)
theorem best_list {w : Drw} {r0 b e f g h i j : Sl} : mLc (mRng1 (mCons (mVar 3) mNil)) (pName 14) (mAnd (mB (m2 dGt (m2 dIx (m2 dIx (mLook 5) (mLook 14)) (mC (.int 0))) (mC (.int 0)))) (mB (m2 dEq (mLc (mItems (mLook 5)) (pName 13) (mTru (mF (cal 2 G_L_is_less) (mCons (m2 dIx (mLook 5) (mLook 14)) (mCons (mVar 13) mNil)))) (mVar 13) [13]) (mLst mNil)))) (mVar 14) [14] (En (.val (.int c)) (.val (.int s)) (.val (.int m)) r0 (.val (.list (hereL c s m))) b e f g h i j .no) w = some (.list (((List.range m).filter (bP c s m)).map fun k => .int ((k : Nat) : Int)), w) := by
  have sm := smallI_of (i := ((m : Nat) : Int)) (by omega) (by omega)
  have tn : (((m : Nat) : Int)).toNat = m := by omega
  have rg : mRng1 (mCons (mVar 3) mNil) (En (.val (.int c)) (.val (.int s)) (.val (.int m)) r0 (.val (.list (hereL c s m))) b e f g h i j .no) w = some (rngD 0 1 m, w) := by
    simp only [En, runM, runS, env0, flD, cal, sSeq, sIf, sRet, sRetN, sDrop, sAsg, sOwn, sFrz, frz, sPar, sPar3, sNx, sNo, sBk, sCt, sApp, sExt, sSetIx, sAug, sFor, sWhile, m1, m2, mC, mVar, mLook, mAnd, mOr, mNot, mIte, mB, mV, mTru, dTru, mAndV, mOrV, mNotV, mNil, mCons, mTup, mLst, mF, mFS, mItems, mRng, mRng1, mRng2, mRng3, dRng1, dRng2, dRng3, mEnum, mZip, mCut, mNoP, mPt, mRev, mNeg, dNeg, dRev, dCut, mLc, mYes, pName, pTup, pNil, pCons, wipeS, dAdd, dSub, dMul, dDiv, dMod, dMulI, dAddI, dCmp, dIsN, dNotN, isNone, dLenX, dLen, seqOf, dAbs, dMax2, dMin2, dInt, dTuple, dList, dCatL, dRepL, mSt, mStLen, mStCell, sSt, sSt3, drwGet, drwSet, mCh2, mCh3, mCount, dCount, Option.bind_some, Option.map_some, Option.bind_none, Option.map_none, List.getElem?_cons_zero, List.getElem?_cons_succ, List.set_cons_zero, List.set_cons_succ, List.map_cons, List.map_nil, List.cons_append, List.nil_append, List.replicate_succ, List.replicate_zero, List.length_cons, List.length_nil, if_true, if_false, reduceIte, Bool.false_eq_true, Bool.not_true, Bool.not_false, decide_true, decide_false, if_pos sm, tn]
  unfold mLc
  show ((mRng1 (mCons (mVar 3) mNil) (En (.val (.int c)) (.val (.int s)) (.val (.int m)) r0 (.val (.list (hereL c s m))) b e f g h i j .no) w).bind _) = _
  rw [rg, Option.bind_some]
  show ((lcGo (pName 14) _ _ (En (.val (.int c)) (.val (.int s)) (.val (.int m)) r0 (.val (.list (hereL c s m))) b e f g h i j .no) (rngD 0 1 m) w).bind _) = _
  rw [rngD_0, lc_natsF (c := bP c s m) (f := fun k => .int ((k : Nat) : Int)) fun k hk => ⟨[.stt, .val (.int c), .val (.int s), .val (.int m), r0, .val (.list (hereL c s m)), b, e, f, g, h, i, j, .no, .val (.int (k : Nat))], rfl, ?_, fun _ => rfl⟩, Option.bind_some]
  · exact if_pos (by
      have h1 := List.length_filter_le (bP c s m) (List.range m)
      rw [List.length_range] at h1
      rw [List.length_map]
      show _ ≤ 1000000; omega)
  have hk := List.mem_range.mp hk
  have hg := here_get (c := c) (s := s) hk
  have hp := fU_pos (u := hN c s k) (wN_pos c k)
  have e1 : decide ((0 : Int) < ((fU (hN c s k) (wN c k) : Nat) : Int)) = decide (0 < hN c s k) := decide_eq_decide.mpr (by omega)
  have inner : lcGo (pName 13) (mTru (mF (cal 2 G_L_is_less) (mCons (m2 dIx (mLook 5) (mLook 14)) (mCons (mVar 13) mNil)))) (mVar 13) [.stt, .val (.int c), .val (.int s), .val (.int m), r0, .val (.list (hereL c s m)), b, e, f, g, h, i, j, .no, .val (.int (k : Nat))] (hereL c s m) w
      = some (((List.range m).filter fun j => decide (hN c s k * wN c j < hN c s j * wN c k)).map (fun j => frac (hN c s j) (wN c j)), w) := by
    show lcGo _ _ _ _ ((List.range m).map fun j => frac (hN c s j) (wN c j)) w = _
    refine lc_natsF fun j hj => ⟨_, rfl, ?_, fun _ => rfl⟩
    have hj := List.mem_range.mp hj
    have a := hw_MB (c := c) (s := s) (show k < 40 by omega) hc
    have b := hw_MB (c := c) (s := s) (show j < 40 by omega) hc
    have q := ev_less_frac (wN_pos c k) (wN_pos c j) a.1 a.2 b.1 b.2
    simp only [runM, runS, env0, flD, cal, sSeq, sIf, sRet, sRetN, sDrop, sAsg, sOwn, sFrz, frz, sPar, sPar3, sNx, sNo, sBk, sCt, sApp, sExt, sSetIx, sAug, sFor, sWhile, m1, m2, mC, mVar, mLook, mAnd, mOr, mNot, mIte, mB, mV, mTru, dTru, mAndV, mOrV, mNotV, mNil, mCons, mTup, mLst, mF, mFS, mItems, mRng, mRng1, mRng2, mRng3, dRng1, dRng2, dRng3, mEnum, mZip, mCut, mNoP, mPt, mRev, mNeg, dNeg, dRev, dCut, mLc, mYes, pName, pTup, pNil, pCons, wipeS, dAdd, dSub, dMul, dDiv, dMod, dMulI, dAddI, dCmp, dIsN, dNotN, isNone, dLenX, dLen, seqOf, dAbs, dMax2, dMin2, dInt, dTuple, dList, dCatL, dRepL, mSt, mStLen, mStCell, sSt, sSt3, drwGet, drwSet, mCh2, mCh3, mCount, dCount, Option.bind_some, Option.map_some, Option.bind_none, Option.map_none, List.getElem?_cons_zero, List.getElem?_cons_succ, List.set_cons_zero, List.set_cons_succ, List.map_cons, List.map_nil, List.cons_append, List.nil_append, List.replicate_succ, List.replicate_zero, List.length_cons, List.length_nil, if_true, if_false, reduceIte, Bool.false_eq_true, Bool.not_true, Bool.not_false, decide_true, decide_false, hg, q, Nat.zero_add, Nat.reduceAdd]
  have il : (((List.range m).filter fun j => decide (hN c s k * wN c j < hN c s j * wN c k)).map (fun j => frac (hN c s j) (wN c j))).length ≤ LB := by
    have h1 := List.length_filter_le (fun j => decide (hN c s k * wN c j < hN c s j * wN c k)) (List.range m)
    rw [List.length_range] at h1
    rw [List.length_map]
    show _ ≤ 1000000; omega
  have l0 : (0 : Nat) ≤ LB := by decide
  have deq : dEq (.list (((List.range m).filter fun j => decide (hN c s k * wN c j < hN c s j * wN c k)).map (fun j => frac (hN c s j) (wN c j)))) (.list []) = some (.bool ((List.range m).all fun j => !decide (hN c s k * wN c j < hN c s j * wN c k))) := by
    have s8 : shp 8 (.list (((List.range m).filter fun j => decide (hN c s k * wN c j < hN c s j * wN c k)).map (fun j => frac (hN c s j) (wN c j)))) = true := by
      show List.all _ (shp 7) = true
      rw [List.all_eq_true]
      intro x hx
      obtain ⟨j, _, rfl⟩ := List.mem_map.mp hx
      rfl
    unfold dEq
    rw [if_pos ⟨s8, rfl⟩, eqv_nil, List.isEmpty_map]
    congr 2
    rw [Bool.eq_iff_iff, List.isEmpty_iff, List.filter_eq_nil_iff, List.all_eq_true]
    refine forall_congr' fun j => forall_congr' fun hj => ?_
    simp
  unfold bP
  cases hz : decide (0 < hN c s k) with
  | true =>
    rw [hz] at e1
    have ix0 := ix_pr0 (.int ((fU (hN c s k) (wN c k) : Nat) : Int)) (.int ((fD (hN c s k) (wN c k) : Nat) : Int))
    have fr : frac (hN c s k) (wN c k) = .tuple [.int ((fU (hN c s k) (wN c k) : Nat) : Int), .int ((fD (hN c s k) (wN c k) : Nat) : Int)] := rfl
    rw [fr] at hg
    have rest : mB (m2 dEq (mLc (mItems (mLook 5)) (pName 13) (mTru (mF (cal 2 G_L_is_less) (mCons (m2 dIx (mLook 5) (mLook 14)) (mCons (mVar 13) mNil)))) (mVar 13) [13]) (mLst mNil)) [.stt, .val (.int c), .val (.int s), .val (.int m), r0, .val (.list (hereL c s m)), b, e, f, g, h, i, j, .no, .val (.int (k : Nat))] w = some ((List.range m).all fun j => !decide (hN c s k * wN c j < hN c s j * wN c k), w) := by
      simp only [runM, runS, env0, flD, cal, sSeq, sIf, sRet, sRetN, sDrop, sAsg, sOwn, sFrz, frz, sPar, sPar3, sNx, sNo, sBk, sCt, sApp, sExt, sSetIx, sAug, sFor, sWhile, m1, m2, mC, mVar, mLook, mAnd, mOr, mNot, mIte, mB, mV, mTru, dTru, mAndV, mOrV, mNotV, mNil, mCons, mTup, mLst, mF, mFS, mItems, mRng, mRng1, mRng2, mRng3, dRng1, dRng2, dRng3, mEnum, mZip, mCut, mNoP, mPt, mRev, mNeg, dNeg, dRev, dCut, mLc, mYes, pName, pTup, pNil, pCons, wipeS, dAdd, dSub, dMul, dDiv, dMod, dMulI, dAddI, dCmp, dIsN, dNotN, isNone, dLenX, dLen, seqOf, dAbs, dMax2, dMin2, dInt, dTuple, dList, dCatL, dRepL, mSt, mStLen, mStCell, sSt, sSt3, drwGet, drwSet, mCh2, mCh3, mCount, dCount, Option.bind_some, Option.map_some, Option.bind_none, Option.map_none, List.getElem?_cons_zero, List.getElem?_cons_succ, List.set_cons_zero, List.set_cons_succ, List.map_cons, List.map_nil, List.cons_append, List.nil_append, List.replicate_succ, List.replicate_zero, List.length_cons, List.length_nil, if_true, if_false, reduceIte, Bool.false_eq_true, Bool.not_true, Bool.not_false, decide_true, decide_false, inner, if_pos il, if_pos l0, deq]
    unfold mAnd
    rw [show mB (m2 dGt (m2 dIx (m2 dIx (mLook 5) (mLook 14)) (mC (.int 0))) (mC (.int 0))) [.stt, .val (.int c), .val (.int s), .val (.int m), r0, .val (.list (hereL c s m)), b, e, f, g, h, i, j, .no, .val (.int (k : Nat))] w = some (true, w) by simp only [runM, runS, env0, flD, cal, sSeq, sIf, sRet, sRetN, sDrop, sAsg, sOwn, sFrz, frz, sPar, sPar3, sNx, sNo, sBk, sCt, sApp, sExt, sSetIx, sAug, sFor, sWhile, m1, m2, mC, mVar, mLook, mAnd, mOr, mNot, mIte, mB, mV, mTru, dTru, mAndV, mOrV, mNotV, mNil, mCons, mTup, mLst, mF, mFS, mItems, mRng, mRng1, mRng2, mRng3, dRng1, dRng2, dRng3, mEnum, mZip, mCut, mNoP, mPt, mRev, mNeg, dNeg, dRev, dCut, mLc, mYes, pName, pTup, pNil, pCons, wipeS, dAdd, dSub, dMul, dDiv, dMod, dMulI, dAddI, dCmp, dIsN, dNotN, isNone, dLenX, dLen, seqOf, dAbs, dMax2, dMin2, dInt, dTuple, dList, dCatL, dRepL, mSt, mStLen, mStCell, sSt, sSt3, drwGet, drwSet, mCh2, mCh3, mCount, dCount, Option.bind_some, Option.map_some, Option.bind_none, Option.map_none, List.getElem?_cons_zero, List.getElem?_cons_succ, List.set_cons_zero, List.set_cons_succ, List.map_cons, List.map_nil, List.cons_append, List.nil_append, List.replicate_succ, List.replicate_zero, List.length_cons, List.length_nil, if_true, if_false, reduceIte, Bool.false_eq_true, Bool.not_true, Bool.not_false, decide_true, decide_false, hg, ix0, e1], Option.bind_some, if_pos rfl]
    exact rest
  | false =>
    rw [hz] at e1
    have ix0 := ix_pr0 (.int ((fU (hN c s k) (wN c k) : Nat) : Int)) (.int ((fD (hN c s k) (wN c k) : Nat) : Int))
    have fr : frac (hN c s k) (wN c k) = .tuple [.int ((fU (hN c s k) (wN c k) : Nat) : Int), .int ((fD (hN c s k) (wN c k) : Nat) : Int)] := rfl
    rw [fr] at hg
    unfold mAnd
    rw [show mB (m2 dGt (m2 dIx (m2 dIx (mLook 5) (mLook 14)) (mC (.int 0))) (mC (.int 0))) [.stt, .val (.int c), .val (.int s), .val (.int m), r0, .val (.list (hereL c s m)), b, e, f, g, h, i, j, .no, .val (.int (k : Nat))] w = some (false, w) by simp only [runM, runS, env0, flD, cal, sSeq, sIf, sRet, sRetN, sDrop, sAsg, sOwn, sFrz, frz, sPar, sPar3, sNx, sNo, sBk, sCt, sApp, sExt, sSetIx, sAug, sFor, sWhile, m1, m2, mC, mVar, mLook, mAnd, mOr, mNot, mIte, mB, mV, mTru, dTru, mAndV, mOrV, mNotV, mNil, mCons, mTup, mLst, mF, mFS, mItems, mRng, mRng1, mRng2, mRng3, dRng1, dRng2, dRng3, mEnum, mZip, mCut, mNoP, mPt, mRev, mNeg, dNeg, dRev, dCut, mLc, mYes, pName, pTup, pNil, pCons, wipeS, dAdd, dSub, dMul, dDiv, dMod, dMulI, dAddI, dCmp, dIsN, dNotN, isNone, dLenX, dLen, seqOf, dAbs, dMax2, dMin2, dInt, dTuple, dList, dCatL, dRepL, mSt, mStLen, mStCell, sSt, sSt3, drwGet, drwSet, mCh2, mCh3, mCount, dCount, Option.bind_some, Option.map_some, Option.bind_none, Option.map_none, List.getElem?_cons_zero, List.getElem?_cons_succ, List.set_cons_zero, List.set_cons_succ, List.map_cons, List.map_nil, List.cons_append, List.nil_append, List.replicate_succ, List.replicate_zero, List.length_cons, List.length_nil, if_true, if_false, reduceIte, Bool.false_eq_true, Bool.not_true, Bool.not_false, decide_true, decide_false, hg, ix0, e1], Option.bind_some, if_neg Bool.false_ne_true]
    rfl
end
end K70

set_option Elab.async false
set_option linter.all false
set_option maxRecDepth 100000
set_option maxHeartbeats 4000000
set_option exponentiation.threshold 10000
namespace K70
open PySem PySem.Spec PyProof.Rows L2 Mini
theorem allF_map {W : Nat} {g : Nat → PyData} {f : Nat → Nat} : ∀ {ks : List Nat}, (∀ k ∈ ks, IsF W (g k) (f k)) → AllF W (ks.map g) (ks.map f)
  | [], _ => .nil
  | k :: ks, h => .cons (h k List.mem_cons_self) (allF_map fun x hx => h x (List.mem_cons_of_mem _ hx))
def mGoodB : MS := (sSeq (sAsg (m2 dIx (mLook 4) (m2 dSub (mLook 9) (mC (.int 1)))) (pName 10))
    (sExt 8 (mIte (mAnd (mNot (mTru (mF (cal 2 G_L_is_less) (mCons (mF (cal 1 G_L_added) (mCons (mF dList (mCons (mCut (mLook 10) mNoP (mPt (m2 dAdd (mLook 2) (mC (.int 1))))) mNil)) mNil)) (mCons (mVar 7) mNil))))) (mNot (mTru (mF (cal 2 G_L_is_less) (mCons (mF (cal 1 G_L_added) (mCons (mF dList (mCons (mCut (mLook 10) (mPt (mVar 2)) mNoP) mNil)) mNil)) (mCons (mVar 7) mNil)))))) (mLst (mCons (mVar 9) mNil)) (mLst mNil))))
def Eo (c s m p : Nat) (here best : Sl) (good : List PyData) (dies row wanted first turn : Sl) : SEnv := En (.val (.int c)) (.val (.int s)) (.val (.int m)) (.val (.list (rowsL m c))) here best (.val (frac p 20)) (.own (.list good)) dies row wanted first turn
theorem good_step {c s m p j : Nat} {here best wa fi tu : Sl} {good : List PyData} {w : Drw} (hc : c ≤ 60) (hm : m ≤ 40) (hj : j < m) (hs : s ≤ j + 1) (hp : p ≤ 20) (hg : good.length ≤ 100) (x : Sl) :
    ∃ x', mGoodB (Eo c s m p here best good (.val (.int ((j + 1 : Nat) : Int))) x wa fi tu) w = some (.nx, Eo c s m p here best (good ++ if gP c s p j = true then [.int ((j + 1 : Nat) : Int)] else []) (.val (.int ((j + 1 : Nat) : Int))) x' wa fi tu, w) := by
  have rg := rows_get (c := c) hj
  have ej : ((j + 1 : Nat) : Int) - 1 = ((j : Nat) : Int) := by omega
  have hw := wN_le (show j < 40 by omega) hc
  have wp := wN_pos c j
  have fz : ∀ k ∈ List.range (j + 2), IsF (wN c j) (frac (r (j + 1) c k) (wN c j)) (r (j + 1) c k) := fun k hk => .frac wp (dn_MB (by
    have := r_le (c := c) (show k ≤ j + 1 by have := List.mem_range.mp hk; omega)
    have : r (j + 1) c k ≤ wN c j := this
    omega)) (dn_MB (by omega))
  have c1 := cut_low (xs := chD (j + 1) c) (s := s) (by rw [chD_len]; omega)
  have c2 := cut_high (xs := chD (j + 1) c) (s := s) (by rw [chD_len]; omega)
  have lo := low_le c s j
  have hi := high_le c s j
  have a1 := ev_L_added (W := wN c j) (ds := (chD (j + 1) c).take (s + 1)) (ns := lowL c s j) wp (dn_MB (by omega)) (by
    unfold chD lowL
    rw [← List.map_take]
    exact allF_map fun k hk => fz k (List.mem_of_mem_take hk)) (dn_MB (by omega))
  have a2 := ev_L_added (W := wN c j) (ds := (chD (j + 1) c).drop s) (ns := highL c s j) wp (dn_MB (by omega)) (by
    unfold chD highL
    rw [← List.map_drop]
    exact allF_map fun k hk => fz k (List.mem_of_mem_drop hk)) (dn_MB (by omega))
  have l1 := ev_less_frac (a := (lowL c s j).sum) (W := wN c j) (b := p) (V := 20) wp (by decide) (dn_MB (by omega)) (dn_MB (by omega)) (dn_MB (by omega)) (dn_MB (by omega))
  have l2 := ev_less_frac (a := (highL c s j).sum) (W := wN c j) (b := p) (V := 20) wp (by decide) (dn_MB (by omega)) (dn_MB (by omega)) (dn_MB (by omega)) (dn_MB (by omega))
  have k1 : (1 : Nat) ≤ LB := by decide
  have k0 : (0 : Nat) ≤ LB := by decide
  have lg1 : good.length + 1 ≤ LB := by show _ ≤ 1000000; omega
  have lg0 : good.length ≤ LB := by show _ ≤ 1000000; omega
  have n1 : (!decide ((lowL c s j).sum * 20 < p * wN c j)) = decide (p * wN c j ≤ (lowL c s j).sum * 20) := by rw [← decide_not]; exact decide_eq_decide.mpr (by omega)
  have n2 : (!decide ((highL c s j).sum * 20 < p * wN c j)) = decide (p * wN c j ≤ (highL c s j).sum * 20) := by rw [← decide_not]; exact decide_eq_decide.mpr (by omega)
  have dl1 : dList [.tuple ((chD (j + 1) c).take (s + 1))] = some (.list ((chD (j + 1) c).take (s + 1))) := rfl
  have dl2 : dList [.tuple ((chD (j + 1) c).drop s)] = some (.list ((chD (j + 1) c).drop s)) := rfl
  refine ⟨.val (.tuple (chD (j + 1) c)), ?_⟩
  unfold mGoodB
  rw [seq_nx (S1 := Eo c s m p here best good (.val (.int ((j + 1 : Nat) : Int))) (.val (.tuple (chD (j + 1) c))) wa fi tu) (w1 := w) (by simp only [Eo, En, runM, runS, env0, flD, cal, sSeq, sIf, sRet, sRetN, sDrop, sAsg, sOwn, sFrz, frz, sPar, sPar3, sNx, sNo, sBk, sCt, sApp, sExt, sSetIx, sAug, sFor, sWhile, m1, m2, mC, mVar, mLook, mAnd, mOr, mNot, mIte, mB, mV, mTru, dTru, mAndV, mOrV, mNotV, mNil, mCons, mTup, mLst, mF, mFS, mItems, mRng, mRng1, mRng2, mRng3, dRng1, dRng2, dRng3, mEnum, mZip, mCut, mNoP, mPt, mRev, mNeg, dNeg, dRev, dCut, mLc, mYes, pName, pTup, pNil, pCons, wipeS, dAdd, dSub, dMul, dDiv, dMod, dMulI, dAddI, dCmp, dIsN, dNotN, isNone, dLenX, dLen, seqOf, dAbs, dMax2, dMin2, dInt, dTuple, dList, dCatL, dRepL, mSt, mStLen, mStCell, sSt, sSt3, drwGet, drwSet, mCh2, mCh3, mCount, dCount, Option.bind_some, Option.map_some, Option.bind_none, Option.map_none, List.getElem?_cons_zero, List.getElem?_cons_succ, List.set_cons_zero, List.set_cons_succ, List.map_cons, List.map_nil, List.cons_append, List.nil_append, List.replicate_succ, List.replicate_zero, List.length_cons, List.length_nil, if_true, if_false, reduceIte, Bool.false_eq_true, Bool.not_true, Bool.not_false, decide_true, decide_false, ej, rg])]
  unfold gP
  cases h1 : decide (p * wN c j ≤ (lowL c s j).sum * 20) with
  | false =>
    rw [h1] at n1
    simp only [Eo, En, runM, runS, env0, flD, cal, sSeq, sIf, sRet, sRetN, sDrop, sAsg, sOwn, sFrz, frz, sPar, sPar3, sNx, sNo, sBk, sCt, sApp, sExt, sSetIx, sAug, sFor, sWhile, m1, m2, mC, mVar, mLook, mAnd, mOr, mNot, mIte, mB, mV, mTru, dTru, mAndV, mOrV, mNotV, mNil, mCons, mTup, mLst, mF, mFS, mItems, mRng, mRng1, mRng2, mRng3, dRng1, dRng2, dRng3, mEnum, mZip, mCut, mNoP, mPt, mRev, mNeg, dNeg, dRev, dCut, mLc, mYes, pName, pTup, pNil, pCons, wipeS, dAdd, dSub, dMul, dDiv, dMod, dMulI, dAddI, dCmp, dIsN, dNotN, isNone, dLenX, dLen, seqOf, dAbs, dMax2, dMin2, dInt, dTuple, dList, dCatL, dRepL, mSt, mStLen, mStCell, sSt, sSt3, drwGet, drwSet, mCh2, mCh3, mCount, dCount, Option.bind_some, Option.map_some, Option.bind_none, Option.map_none, List.getElem?_cons_zero, List.getElem?_cons_succ, List.set_cons_zero, List.set_cons_succ, List.map_cons, List.map_nil, List.cons_append, List.nil_append, List.replicate_succ, List.replicate_zero, List.length_cons, List.length_nil, if_true, if_false, reduceIte, Bool.false_eq_true, Bool.not_true, Bool.not_false, decide_true, decide_false, c1, a1, l1, n1, Nat.zero_add, Nat.reduceAdd, Bool.false_and, if_pos k0, List.append_nil, Nat.add_zero, if_pos lg0]
  | true =>
    rw [h1] at n1
    cases h2 : decide (p * wN c j ≤ (highL c s j).sum * 20) with
    | false =>
      rw [h2] at n2
      simp only [Eo, En, runM, runS, env0, flD, cal, sSeq, sIf, sRet, sRetN, sDrop, sAsg, sOwn, sFrz, frz, sPar, sPar3, sNx, sNo, sBk, sCt, sApp, sExt, sSetIx, sAug, sFor, sWhile, m1, m2, mC, mVar, mLook, mAnd, mOr, mNot, mIte, mB, mV, mTru, dTru, mAndV, mOrV, mNotV, mNil, mCons, mTup, mLst, mF, mFS, mItems, mRng, mRng1, mRng2, mRng3, dRng1, dRng2, dRng3, mEnum, mZip, mCut, mNoP, mPt, mRev, mNeg, dNeg, dRev, dCut, mLc, mYes, pName, pTup, pNil, pCons, wipeS, dAdd, dSub, dMul, dDiv, dMod, dMulI, dAddI, dCmp, dIsN, dNotN, isNone, dLenX, dLen, seqOf, dAbs, dMax2, dMin2, dInt, dTuple, dList, dCatL, dRepL, mSt, mStLen, mStCell, sSt, sSt3, drwGet, drwSet, mCh2, mCh3, mCount, dCount, Option.bind_some, Option.map_some, Option.bind_none, Option.map_none, List.getElem?_cons_zero, List.getElem?_cons_succ, List.set_cons_zero, List.set_cons_succ, List.map_cons, List.map_nil, List.cons_append, List.nil_append, List.replicate_succ, List.replicate_zero, List.length_cons, List.length_nil, if_true, if_false, reduceIte, Bool.false_eq_true, Bool.not_true, Bool.not_false, decide_true, decide_false, c1, c2, a1, a2, l1, l2, n1, n2, Nat.zero_add, Nat.reduceAdd, Bool.and_false, if_pos k0, List.append_nil, Nat.add_zero, if_pos lg0]
    | true =>
      rw [h2] at n2
      simp only [Eo, En, runM, runS, env0, flD, cal, sSeq, sIf, sRet, sRetN, sDrop, sAsg, sOwn, sFrz, frz, sPar, sPar3, sNx, sNo, sBk, sCt, sApp, sExt, sSetIx, sAug, sFor, sWhile, m1, m2, mC, mVar, mLook, mAnd, mOr, mNot, mIte, mB, mV, mTru, dTru, mAndV, mOrV, mNotV, mNil, mCons, mTup, mLst, mF, mFS, mItems, mRng, mRng1, mRng2, mRng3, dRng1, dRng2, dRng3, mEnum, mZip, mCut, mNoP, mPt, mRev, mNeg, dNeg, dRev, dCut, mLc, mYes, pName, pTup, pNil, pCons, wipeS, dAdd, dSub, dMul, dDiv, dMod, dMulI, dAddI, dCmp, dIsN, dNotN, isNone, dLenX, dLen, seqOf, dAbs, dMax2, dMin2, dInt, dTuple, dList, dCatL, dRepL, mSt, mStLen, mStCell, sSt, sSt3, drwGet, drwSet, mCh2, mCh3, mCount, dCount, Option.bind_some, Option.map_some, Option.bind_none, Option.map_none, List.getElem?_cons_zero, List.getElem?_cons_succ, List.set_cons_zero, List.set_cons_succ, List.map_cons, List.map_nil, List.cons_append, List.nil_append, List.replicate_succ, List.replicate_zero, List.length_cons, List.length_nil, if_true, if_false, reduceIte, Bool.false_eq_true, Bool.not_true, Bool.not_false, decide_true, decide_false, c1, c2, a1, a2, l1, l2, n1, n2, Nat.zero_add, Nat.reduceAdd, Bool.and_true, if_pos k1, if_pos lg1]
theorem good_loop {c s m p : Nat} {here best wa fi tu : Sl} {w : Drw} (hc : c ≤ 60) (hm : m ≤ 40) (hp : p ≤ 20) : ∀ (n j : Nat) (good : List PyData) (d x : Sl), j + n ≤ m ∨ n = 0 → s ≤ j + 1 → good.length + n ≤ 100 → ∃ d' x', forGo (pName 9) mGoodB (rngD ((j + 1 : Nat) : Int) 1 n) (Eo c s m p here best good d x wa fi tu) w = some (.nx, Eo c s m p here best (good ++ goodL c s p j n) d' x' wa fi tu, w)
  | 0, j, good, d, x, _, _, _ => ⟨d, x, by rw [show goodL c s p j 0 = [] from rfl, List.append_nil]; rfl⟩
  | n + 1, j, good, d, x, h, hs, hg => by
    obtain ⟨x1, st⟩ := good_step (here := here) (best := best) (wa := wa) (fi := fi) (tu := tu) (w := w) (good := good) hc hm (show j < m by omega) hs hp (by omega) x
    obtain ⟨d', x', ih⟩ := good_loop (here := here) (best := best) (wa := wa) (fi := fi) (tu := tu) (w := w) (s := s) hc hm hp n (j + 1) (good ++ if gP c s p j = true then [.int ((j + 1 : Nat) : Int)] else []) (.val (.int ((j + 1 : Nat) : Int))) x1 (by omega) (by omega) (by
      rw [List.length_append]
      split
      · rw [List.length_singleton]; omega
      · rw [List.length_nil]; omega)
    refine ⟨d', x', ?_⟩
    rw [rngD_succ, forGo_cons]
    rw [show pName 9 (.int ((j + 1 : Nat) : Int)) (Eo c s m p here best good d x wa fi tu) = some (Eo c s m p here best good (.val (.int ((j + 1 : Nat) : Int))) x wa fi tu) from rfl, Option.bind_some, st, Option.bind_some]
    have e1 : ((j + 1 : Nat) : Int) + 1 = ((j + 1 + 1 : Nat) : Int) := by omega
    rw [goodL_succ, ← List.append_assoc, ← ih, e1]
theorem first_list {d wd : Nat} {w : Drw} {a b c e f g h i j k : Sl} (h1 : 1 ≤ d) (hd : d ≤ 40) (hw : wd ≤ 40) : mLc (mRng1 (mCons (mC (.int 61)) mNil)) (pName 13) (mNot (mTru (mF (cal 2 G_L_is_less) (mCons (mF (cal 2 G_mean_seen) (mCons (mVar 9) (mCons (mVar 13) mNil))) (mCons (mTup (mCons (mVar 11) (mCons (mC (.int 1)) mNil))) mNil))))) (mVar 13) [13] (En a b c e f g h i (.val (.int d)) j (.val (.int wd)) k .no) w = some (.list (((List.range 61).filter (lP d wd)).map fun k => .int ((k : Nat) : Int)), w) := by
  have rg : mRng1 (mCons (mC (.int 61)) mNil) (En a b c e f g h i (.val (.int d)) j (.val (.int wd)) k .no) w = some (rngD 0 1 61, w) := rfl
  unfold mLc
  rw [rg, Option.bind_some]
  show ((lcGo (pName 13) _ _ (En a b c e f g h i (.val (.int d)) j (.val (.int wd)) k .no) (rngD 0 1 61) w).bind _) = _
  have l2 : (2 : Nat) ≤ LB := by decide
  rw [rngD_0, lc_natsF (c := lP d wd) (f := fun k => .int ((k : Nat) : Int)) fun n hk => ⟨En a b c e f g h i (.val (.int d)) j (.val (.int wd)) k (.val (.int (n : Nat))), rfl, ?_, fun _ => rfl⟩, Option.bind_some]
  · exact if_pos (by
      have h1 := List.length_filter_le (lP d wd) (List.range 61)
      rw [List.length_range] at h1
      rw [List.length_map]
      show _ ≤ 1000000; omega)
  have hk := List.mem_range.mp hk
  have q := ev_mean_seen (d := d) (c := n) h1 hd (by omega)
  have pw := pow_MB hd (show n ≤ 62 by omega)
  have pp : 0 < d ^ n := Nat.pow_pos h1
  have tm := T_MB (d := d) (c := n) hd (by omega)
  have ls := ev_less_frac (a := T (r d n) (d + 1)) (W := d ^ n) (b := wd) (V := 1) pp (by decide) (dn_MB (by omega)) (dn_MB (by omega)) (dn_MB (by omega)) (dn_MB (by omega))
  rw [frac_self (Nat.coprime_one_right wd), Nat.mul_one] at ls
  have e : (!decide (T (r d n) (d + 1) < wd * d ^ n)) = lP d wd n := by unfold lP; rw [← decide_not]; exact decide_eq_decide.mpr (by omega)
  have ls' : G_L_is_less [frac (T (r d n) (d + 1)) (d ^ n), .tuple [.int (wd : Nat), .int 1]] = some (.bool (decide (T (r d n) (d + 1) < wd * d ^ n))) := ls
  simp only [En, runM, runS, env0, flD, cal, sSeq, sIf, sRet, sRetN, sDrop, sAsg, sOwn, sFrz, frz, sPar, sPar3, sNx, sNo, sBk, sCt, sApp, sExt, sSetIx, sAug, sFor, sWhile, m1, m2, mC, mVar, mLook, mAnd, mOr, mNot, mIte, mB, mV, mTru, dTru, mAndV, mOrV, mNotV, mNil, mCons, mTup, mLst, mF, mFS, mItems, mRng, mRng1, mRng2, mRng3, dRng1, dRng2, dRng3, mEnum, mZip, mCut, mNoP, mPt, mRev, mNeg, dNeg, dRev, dCut, mLc, mYes, pName, pTup, pNil, pCons, wipeS, dAdd, dSub, dMul, dDiv, dMod, dMulI, dAddI, dCmp, dIsN, dNotN, isNone, dLenX, dLen, seqOf, dAbs, dMax2, dMin2, dInt, dTuple, dList, dCatL, dRepL, mSt, mStLen, mStCell, sSt, sSt3, drwGet, drwSet, mCh2, mCh3, mCount, dCount, Option.bind_some, Option.map_some, Option.bind_none, Option.map_none, List.getElem?_cons_zero, List.getElem?_cons_succ, List.set_cons_zero, List.set_cons_succ, List.map_cons, List.map_nil, List.cons_append, List.nil_append, List.replicate_succ, List.replicate_zero, List.length_cons, List.length_nil, if_true, if_false, reduceIte, Bool.false_eq_true, Bool.not_true, Bool.not_false, decide_true, decide_false, q, if_pos l2, ls', e, Nat.zero_add, Nat.reduceAdd]
def headD (xs : List Nat) (k : Nat) : PyData := match xs.head? with
  | some x => .int ((x + k : Nat) : Int)
  | none => .none
end K70

set_option Elab.async false
set_option linter.all false
set_option maxRecDepth 100000
set_option maxHeartbeats 4000000
set_option exponentiation.threshold 10000
namespace K70
open PySem PySem.Spec PyProof.Rows L2 Mini
theorem ev_numbers_hold {w : Drw} {n : Nat} (h : w.In n) (hn : n + 20 < 2 ^ 60) : ∃ w', G_L_numbers_hold [] w = some (.bool true, w') ∧ w'.In (n + 6) := by
  obtain ⟨c, w1, e1, r1, i1⟩ := ev_draw h (by omega) 9 (by decide) (by decide)
  obtain ⟨s, w2, e2, r2, i2⟩ := ev_draw i1 (by omega) 7 (by decide) (by decide)
  obtain ⟨m0, w3, e3, r3, i3⟩ := ev_draw i2 (by omega) 11 (by decide) (by decide)
  obtain ⟨p0, w4, e4, r4, i4⟩ := ev_draw i3 (by omega) 9 (by decide) (by decide)
  obtain ⟨d0, w5, e5, r5, i5⟩ := ev_draw i4 (by omega) 8 (by decide) (by decide)
  obtain ⟨wd, w6, e6, r6, i6⟩ := ev_draw i5 (by omega) 9 (by decide) (by decide)
  refine ⟨w6, ?_, i6⟩
  obtain ⟨m, hm⟩ : ∃ m, m = 1 + m0 := ⟨_, rfl⟩
  obtain ⟨p, hp⟩ : ∃ p, p = 1 + p0 := ⟨_, rfl⟩
  obtain ⟨d, hd⟩ : ∃ d, d = 1 + d0 := ⟨_, rfl⟩
  have cm : (1 : Int) + (m0 : Nat) = ((m : Nat) : Int) := by omega
  have cp : (1 : Int) + (p0 : Nat) = ((p : Nat) : Int) := by omega
  have cd : (1 : Int) + (d0 : Nat) = ((d : Nat) : Int) := by omega
  rw [show ((9 : Nat) : Int) = 9 from rfl] at e1 e4 e6
  rw [show ((7 : Nat) : Int) = 7 from rfl] at e2
  rw [show ((11 : Nat) : Int) = 11 from rfl] at e3
  rw [show ((8 : Nat) : Int) = 8 from rfl] at e5
  have l3 : (3 : Nat) ≤ LB := by decide
  have l2 : (2 : Nat) ≤ LB := by decide
  have l0 : (0 : Nat) ≤ LB := by decide
  have hc : c ≤ 60 := by omega
  have hs : s ≤ 40 := by omega
  have hm40 : m ≤ 40 := by omega
  unfold G_L_numbers_hold runS m_L_numbers_hold
  rw [seq_nx (S1 := En (.val (.int c)) (.val (.int s)) (.val (.int m)) .no .no .no .no .no .no .no .no .no .no) (w1 := w3) (by simp only [En, runM, runS, env0, flD, cal, sSeq, sIf, sRet, sRetN, sDrop, sAsg, sOwn, sFrz, frz, sPar, sPar3, sNx, sNo, sBk, sCt, sApp, sExt, sSetIx, sAug, sFor, sWhile, m1, m2, mC, mVar, mLook, mAnd, mOr, mNot, mIte, mB, mV, mTru, dTru, mAndV, mOrV, mNotV, mNil, mCons, mTup, mLst, mF, mFS, mItems, mRng, mRng1, mRng2, mRng3, dRng1, dRng2, dRng3, mEnum, mZip, mCut, mNoP, mPt, mRev, mNeg, dNeg, dRev, dCut, mLc, mYes, pName, pTup, pNil, pCons, wipeS, dAdd, dSub, dMul, dDiv, dMod, dMulI, dAddI, dCmp, dIsN, dNotN, isNone, dLenX, dLen, seqOf, dAbs, dMax2, dMin2, dInt, dTuple, dList, dCatL, dRepL, mSt, mStLen, mStCell, sSt, sSt3, drwGet, drwSet, mCh2, mCh3, mCount, dCount, Option.bind_some, Option.map_some, Option.bind_none, Option.map_none, List.getElem?_cons_zero, List.getElem?_cons_succ, List.set_cons_zero, List.set_cons_succ, List.map_cons, List.map_nil, List.cons_append, List.nil_append, List.replicate_succ, List.replicate_zero, List.length_cons, List.length_nil, if_true, if_false, reduceIte, Bool.false_eq_true, Bool.not_true, Bool.not_false, decide_true, decide_false, e1, e2, e3, cm, if_pos l3, Nat.zero_add, Nat.reduceAdd])]
  -- rows
  have sm1 : smallI 1 = true := rfl
  have sm2 : smallI (((m : Nat) : Int) + 1) = true := smallI_of (by omega) (by omega)
  have tn : (((m : Nat) : Int) + 1 - 1).toNat = m := by omega
  have lm : (rowsL m c).length ≤ LB := by unfold rowsL; rw [List.length_map, List.length_range]; show m ≤ 1000000; omega
  rw [seq_nx (S1 := En (.val (.int c)) (.val (.int s)) (.val (.int m)) (.val (.list (rowsL m c))) .no .no .no .no .no .no .no .no .no) (w1 := w3) (by
    have q := rows_list (S := En (.val (.int c)) (.val (.int s)) (.val (.int m)) .no .no .no .no .no .no .no .no .no .no) (w := w3) hm40 hc (fun v => rfl) (fun v => rfl) (fun v => rfl)
    simp only [En] at q
    simp only [En, runM, runS, env0, flD, cal, sSeq, sIf, sRet, sRetN, sDrop, sAsg, sOwn, sFrz, frz, sPar, sPar3, sNx, sNo, sBk, sCt, sApp, sExt, sSetIx, sAug, sFor, sWhile, m1, m2, mC, mVar, mLook, mAnd, mOr, mNot, mIte, mB, mV, mTru, dTru, mAndV, mOrV, mNotV, mNil, mCons, mTup, mLst, mF, mFS, mItems, mRng, mRng1, mRng2, mRng3, dRng1, dRng2, dRng3, mEnum, mZip, mCut, mNoP, mPt, mRev, mNeg, dNeg, dRev, dCut, mLc, mYes, pName, pTup, pNil, pCons, wipeS, dAdd, dSub, dMul, dDiv, dMod, dMulI, dAddI, dCmp, dIsN, dNotN, isNone, dLenX, dLen, seqOf, dAbs, dMax2, dMin2, dInt, dTuple, dList, dCatL, dRepL, mSt, mStLen, mStCell, sSt, sSt3, drwGet, drwSet, mCh2, mCh3, mCount, dCount, Option.bind_some, Option.map_some, Option.bind_none, Option.map_none, List.getElem?_cons_zero, List.getElem?_cons_succ, List.set_cons_zero, List.set_cons_succ, List.map_cons, List.map_nil, List.cons_append, List.nil_append, List.replicate_succ, List.replicate_zero, List.length_cons, List.length_nil, if_true, if_false, reduceIte, Bool.false_eq_true, Bool.not_true, Bool.not_false, decide_true, decide_false, sm1, sm2, and_self, tn, q, if_pos lm])]
  rw [seq_nx (S1 := En (.val (.int c)) (.val (.int s)) (.val (.int m)) (.val (.list (rowsL m c))) (.val (.list (hereL c s m))) .no .no .no .no .no .no .no .no) (w1 := w3) (by
    unfold sAsg
    rw [here_list hc hs hm40, Option.bind_some]; rfl)]
  obtain ⟨B, hB⟩ : ∃ B, B = (List.range m).filter (bP c s m) := ⟨_, rfl⟩
  have hf : (List.range m).find? (bP c s m) = B.head? := by rw [hB, List.head?_filter]
  rw [seq_nx (S1 := En (.val (.int c)) (.val (.int s)) (.val (.int m)) (.val (.list (rowsL m c))) (.val (.list (hereL c s m))) (.val (.list (B.map fun k => .int ((k : Nat) : Int)))) .no .no .no .no .no .no .no) (w1 := w3) (by
    unfold sAsg
    rw [best_list hc hs hm40, Option.bind_some, hB]; rfl)]
  have lk := ev_likeliest (c := c) (s := s) (m := m) hc hs (by omega) hm40
  rw [hf] at lk
  rw [seq_nx (if_no (w1 := w3) (by
    cases B with
    | nil =>
      have ne := dNe_refl (d := .none) rfl
      have lk' : G_likeliest_dies [.int c, .int s, .int m] = some .none := lk
      simp only [En, runM, runS, env0, flD, cal, sSeq, sIf, sRet, sRetN, sDrop, sAsg, sOwn, sFrz, frz, sPar, sPar3, sNx, sNo, sBk, sCt, sApp, sExt, sSetIx, sAug, sFor, sWhile, m1, m2, mC, mVar, mLook, mAnd, mOr, mNot, mIte, mB, mV, mTru, dTru, mAndV, mOrV, mNotV, mNil, mCons, mTup, mLst, mF, mFS, mItems, mRng, mRng1, mRng2, mRng3, dRng1, dRng2, dRng3, mEnum, mZip, mCut, mNoP, mPt, mRev, mNeg, dNeg, dRev, dCut, mLc, mYes, pName, pTup, pNil, pCons, wipeS, dAdd, dSub, dMul, dDiv, dMod, dMulI, dAddI, dCmp, dIsN, dNotN, isNone, dLenX, dLen, seqOf, dAbs, dMax2, dMin2, dInt, dTuple, dList, dCatL, dRepL, mSt, mStLen, mStCell, sSt, sSt3, drwGet, drwSet, mCh2, mCh3, mCount, dCount, Option.bind_some, Option.map_some, Option.bind_none, Option.map_none, List.getElem?_cons_zero, List.getElem?_cons_succ, List.set_cons_zero, List.set_cons_succ, List.map_cons, List.map_nil, List.cons_append, List.nil_append, List.replicate_succ, List.replicate_zero, List.length_cons, List.length_nil, if_true, if_false, reduceIte, Bool.false_eq_true, Bool.not_true, Bool.not_false, decide_true, decide_false, lk', List.isEmpty_nil, ne, Nat.zero_add, Nat.reduceAdd]
    | cons x xs =>
      have ne := dNe_refl (d := .int ((x : Nat) + 1 : Int)) rfl
      have lk' : G_likeliest_dies [.int c, .int s, .int m] = some (.int ((x : Nat) + 1 : Int)) := lk
      simp only [En, runM, runS, env0, flD, cal, sSeq, sIf, sRet, sRetN, sDrop, sAsg, sOwn, sFrz, frz, sPar, sPar3, sNx, sNo, sBk, sCt, sApp, sExt, sSetIx, sAug, sFor, sWhile, m1, m2, mC, mVar, mLook, mAnd, mOr, mNot, mIte, mB, mV, mTru, dTru, mAndV, mOrV, mNotV, mNil, mCons, mTup, mLst, mF, mFS, mItems, mRng, mRng1, mRng2, mRng3, dRng1, dRng2, dRng3, mEnum, mZip, mCut, mNoP, mPt, mRev, mNeg, dNeg, dRev, dCut, mLc, mYes, pName, pTup, pNil, pCons, wipeS, dAdd, dSub, dMul, dDiv, dMod, dMulI, dAddI, dCmp, dIsN, dNotN, isNone, dLenX, dLen, seqOf, dAbs, dMax2, dMin2, dInt, dTuple, dList, dCatL, dRepL, mSt, mStLen, mStCell, sSt, sSt3, drwGet, drwSet, mCh2, mCh3, mCount, dCount, Option.bind_some, Option.map_some, Option.bind_none, Option.map_none, List.getElem?_cons_zero, List.getElem?_cons_succ, List.set_cons_zero, List.set_cons_succ, List.map_cons, List.map_nil, List.cons_append, List.nil_append, List.replicate_succ, List.replicate_zero, List.length_cons, List.length_nil, if_true, if_false, reduceIte, Bool.false_eq_true, Bool.not_true, Bool.not_false, decide_true, decide_false, lk', List.isEmpty_cons, ends_first, ne, Nat.zero_add, Nat.reduceAdd]))]
  -- part
  have q20 := ev_L_quotient (u := p) (d := 20) (up_MB (dn_MB (by omega))) (by omega) (up_MB (dn_MB (by omega)))
  rw [show ((20 : Nat) : Int) = 20 from rfl] at q20
  rw [seq_nx (S1 := En (.val (.int c)) (.val (.int s)) (.val (.int m)) (.val (.list (rowsL m c))) (.val (.list (hereL c s m))) (.val (.list (B.map fun k => .int ((k : Nat) : Int)))) (.val (frac p 20)) .no .no .no .no .no .no) (w1 := w4) (by simp only [En, runM, runS, env0, flD, cal, sSeq, sIf, sRet, sRetN, sDrop, sAsg, sOwn, sFrz, frz, sPar, sPar3, sNx, sNo, sBk, sCt, sApp, sExt, sSetIx, sAug, sFor, sWhile, m1, m2, mC, mVar, mLook, mAnd, mOr, mNot, mIte, mB, mV, mTru, dTru, mAndV, mOrV, mNotV, mNil, mCons, mTup, mLst, mF, mFS, mItems, mRng, mRng1, mRng2, mRng3, dRng1, dRng2, dRng3, mEnum, mZip, mCut, mNoP, mPt, mRev, mNeg, dNeg, dRev, dCut, mLc, mYes, pName, pTup, pNil, pCons, wipeS, dAdd, dSub, dMul, dDiv, dMod, dMulI, dAddI, dCmp, dIsN, dNotN, isNone, dLenX, dLen, seqOf, dAbs, dMax2, dMin2, dInt, dTuple, dList, dCatL, dRepL, mSt, mStLen, mStCell, sSt, sSt3, drwGet, drwSet, mCh2, mCh3, mCount, dCount, Option.bind_some, Option.map_some, Option.bind_none, Option.map_none, List.getElem?_cons_zero, List.getElem?_cons_succ, List.set_cons_zero, List.set_cons_succ, List.map_cons, List.map_nil, List.cons_append, List.nil_append, List.replicate_succ, List.replicate_zero, List.length_cons, List.length_nil, if_true, if_false, reduceIte, Bool.false_eq_true, Bool.not_true, Bool.not_false, decide_true, decide_false, e4, cp, q20, Nat.zero_add, Nat.reduceAdd])]
  rw [seq_nx (S1 := Eo c s m p (.val (.list (hereL c s m))) (.val (.list (B.map fun k => .int ((k : Nat) : Int)))) [] .no .no .no .no .no) (w1 := w4) (by simp only [Eo, En, runM, runS, env0, flD, cal, sSeq, sIf, sRet, sRetN, sDrop, sAsg, sOwn, sFrz, frz, sPar, sPar3, sNx, sNo, sBk, sCt, sApp, sExt, sSetIx, sAug, sFor, sWhile, m1, m2, mC, mVar, mLook, mAnd, mOr, mNot, mIte, mB, mV, mTru, dTru, mAndV, mOrV, mNotV, mNil, mCons, mTup, mLst, mF, mFS, mItems, mRng, mRng1, mRng2, mRng3, dRng1, dRng2, dRng3, mEnum, mZip, mCut, mNoP, mPt, mRev, mNeg, dNeg, dRev, dCut, mLc, mYes, pName, pTup, pNil, pCons, wipeS, dAdd, dSub, dMul, dDiv, dMod, dMulI, dAddI, dCmp, dIsN, dNotN, isNone, dLenX, dLen, seqOf, dAbs, dMax2, dMin2, dInt, dTuple, dList, dCatL, dRepL, mSt, mStLen, mStCell, sSt, sSt3, drwGet, drwSet, mCh2, mCh3, mCount, dCount, Option.bind_some, Option.map_some, Option.bind_none, Option.map_none, List.getElem?_cons_zero, List.getElem?_cons_succ, List.set_cons_zero, List.set_cons_succ, List.map_cons, List.map_nil, List.cons_append, List.nil_append, List.replicate_succ, List.replicate_zero, List.length_cons, List.length_nil, if_true, if_false, reduceIte, Bool.false_eq_true, Bool.not_true, Bool.not_false, decide_true, decide_false, if_pos l0])]
  obtain ⟨d', x', lp⟩ := good_loop (here := .val (.list (hereL c s m))) (best := .val (.list (B.map fun k => .int ((k : Nat) : Int)))) (wa := .no) (fi := .no) (tu := .no) (w := w4) (p := p) (s := s) (m := m) hc hm40 (by omega) (m - (s - 1)) (s - 1) [] .no .no (by omega) (by omega) (by rw [List.length_nil]; omega)
  rw [List.nil_append] at lp
  have mx : dBest PySem.W.maxD [.list [.int 1, .int (s : Nat)]] = some (.int ((s - 1 + 1 : Nat) : Int)) := by
    have e : PySem.W.maxD (.int 1) [.int (s : Nat)] = .int ((s - 1 + 1 : Nat) : Int) := by
      have k := PySem.W.maxD_ints 1 [((s : Nat) : Int)]
      rw [show ([((s : Nat) : Int)].map PyData.int) = [.int (s : Nat)] from rfl] at k
      rw [k]
      congr 1
      show max (1 : Int) (s : Nat) = _
      omega
    show (if alikeB [PyData.int 1, .int (s : Nat)] = true ∧ [PyData.int 1, .int (s : Nat)].all (shp 8) = true then some (PySem.W.maxD (.int 1) [.int (s : Nat)]) else none) = _
    rw [e]
    exact if_pos ⟨rfl, rfl⟩
  have rg : mRng2 (mCons (mF (dBest PySem.W.maxD) (mCons (mLst (mCons (mC (.int 1)) (mCons (mVar 2) mNil))) mNil)) (mCons (m2 dAdd (mLook 3) (mC (.int 1))) mNil)) (Eo c s m p (.val (.list (hereL c s m))) (.val (.list (B.map fun k => .int ((k : Nat) : Int)))) [] .no .no .no .no .no) w4 = some (rngD ((s - 1 + 1 : Nat) : Int) 1 (m - (s - 1)), w4) := by
    have s1 : smallI ((s - 1 + 1 : Nat) : Int) = true := smallI_of (by omega) (by omega)
    have t : (((m : Nat) : Int) + 1 - ((s - 1 + 1 : Nat) : Int)).toNat = m - (s - 1) := by omega
    simp only [Eo, En, runM, runS, env0, flD, cal, sSeq, sIf, sRet, sRetN, sDrop, sAsg, sOwn, sFrz, frz, sPar, sPar3, sNx, sNo, sBk, sCt, sApp, sExt, sSetIx, sAug, sFor, sWhile, m1, m2, mC, mVar, mLook, mAnd, mOr, mNot, mIte, mB, mV, mTru, dTru, mAndV, mOrV, mNotV, mNil, mCons, mTup, mLst, mF, mFS, mItems, mRng, mRng1, mRng2, mRng3, dRng1, dRng2, dRng3, mEnum, mZip, mCut, mNoP, mPt, mRev, mNeg, dNeg, dRev, dCut, mLc, mYes, pName, pTup, pNil, pCons, wipeS, dAdd, dSub, dMul, dDiv, dMod, dMulI, dAddI, dCmp, dIsN, dNotN, isNone, dLenX, dLen, seqOf, dAbs, dMax2, dMin2, dInt, dTuple, dList, dCatL, dRepL, mSt, mStLen, mStCell, sSt, sSt3, drwGet, drwSet, mCh2, mCh3, mCount, dCount, Option.bind_some, Option.map_some, Option.bind_none, Option.map_none, List.getElem?_cons_zero, List.getElem?_cons_succ, List.set_cons_zero, List.set_cons_succ, List.map_cons, List.map_nil, List.cons_append, List.nil_append, List.replicate_succ, List.replicate_zero, List.length_cons, List.length_nil, if_true, if_false, reduceIte, Bool.false_eq_true, Bool.not_true, Bool.not_false, decide_true, decide_false, if_pos l2, Nat.zero_add, Nat.reduceAdd, mx, s1, sm2, t, and_self]
  rw [seq_nx (S1 := Eo c s m p (.val (.list (hereL c s m))) (.val (.list (B.map fun k => .int ((k : Nat) : Int)))) (goodL c s p (s - 1) (m - (s - 1))) d' x' .no .no .no) (w1 := w4) (by
    unfold sFor
    rw [rg, Option.bind_some]
    exact lp)]
  have bd := ev_bounds (c := c) (s := s) (p := p) (m := m) hc hs (by omega) hm40 (by omega) (by omega)
  have ng : ∀ k ∈ goodL c s p (s - 1) (m - (s - 1)), ∃ i, k = .int i := fun k hk => by
    unfold goodL at hk
    obtain ⟨i, _, rfl⟩ := List.mem_map.mp hk
    exact ⟨_, rfl⟩
  rw [seq_nx (if_no (w1 := w4) (by
    generalize goodL c s p (s - 1) (m - (s - 1)) = gl at *
    cases gl with
    | nil =>
      have ne := dNe_refl (d := .none) rfl
      simp only [Eo, En, runM, runS, env0, flD, cal, sSeq, sIf, sRet, sRetN, sDrop, sAsg, sOwn, sFrz, frz, sPar, sPar3, sNx, sNo, sBk, sCt, sApp, sExt, sSetIx, sAug, sFor, sWhile, m1, m2, mC, mVar, mLook, mAnd, mOr, mNot, mIte, mB, mV, mTru, dTru, mAndV, mOrV, mNotV, mNil, mCons, mTup, mLst, mF, mFS, mItems, mRng, mRng1, mRng2, mRng3, dRng1, dRng2, dRng3, mEnum, mZip, mCut, mNoP, mPt, mRev, mNeg, dNeg, dRev, dCut, mLc, mYes, pName, pTup, pNil, pCons, wipeS, dAdd, dSub, dMul, dDiv, dMod, dMulI, dAddI, dCmp, dIsN, dNotN, isNone, dLenX, dLen, seqOf, dAbs, dMax2, dMin2, dInt, dTuple, dList, dCatL, dRepL, mSt, mStLen, mStCell, sSt, sSt3, drwGet, drwSet, mCh2, mCh3, mCount, dCount, Option.bind_some, Option.map_some, Option.bind_none, Option.map_none, List.getElem?_cons_zero, List.getElem?_cons_succ, List.set_cons_zero, List.set_cons_succ, List.map_cons, List.map_nil, List.cons_append, List.nil_append, List.replicate_succ, List.replicate_zero, List.length_cons, List.length_nil, if_true, if_false, reduceIte, Bool.false_eq_true, Bool.not_true, Bool.not_false, decide_true, decide_false, bd, endsD, List.isEmpty_nil, ne, Nat.zero_add, Nat.reduceAdd]
    | cons x xs =>
      have ne : dNe (.tuple [x, (x :: xs).getLast (List.cons_ne_nil _ _)]) (.tuple [x, (x :: xs).getLast (List.cons_ne_nil _ _)]) = some (.bool false) := dNe_refl (by
        obtain ⟨i, hi⟩ := ng x List.mem_cons_self
        obtain ⟨j, hj⟩ := ng _ (List.getLast_mem (List.cons_ne_nil x xs))
        rw [hj, hi]; rfl)
      simp only [Eo, En, runM, runS, env0, flD, cal, sSeq, sIf, sRet, sRetN, sDrop, sAsg, sOwn, sFrz, frz, sPar, sPar3, sNx, sNo, sBk, sCt, sApp, sExt, sSetIx, sAug, sFor, sWhile, m1, m2, mC, mVar, mLook, mAnd, mOr, mNot, mIte, mB, mV, mTru, dTru, mAndV, mOrV, mNotV, mNil, mCons, mTup, mLst, mF, mFS, mItems, mRng, mRng1, mRng2, mRng3, dRng1, dRng2, dRng3, mEnum, mZip, mCut, mNoP, mPt, mRev, mNeg, dNeg, dRev, dCut, mLc, mYes, pName, pTup, pNil, pCons, wipeS, dAdd, dSub, dMul, dDiv, dMod, dMulI, dAddI, dCmp, dIsN, dNotN, isNone, dLenX, dLen, seqOf, dAbs, dMax2, dMin2, dInt, dTuple, dList, dCatL, dRepL, mSt, mStLen, mStCell, sSt, sSt3, drwGet, drwSet, mCh2, mCh3, mCount, dCount, Option.bind_some, Option.map_some, Option.bind_none, Option.map_none, List.getElem?_cons_zero, List.getElem?_cons_succ, List.set_cons_zero, List.set_cons_succ, List.map_cons, List.map_nil, List.cons_append, List.nil_append, List.replicate_succ, List.replicate_zero, List.length_cons, List.length_nil, if_true, if_false, reduceIte, Bool.false_eq_true, Bool.not_true, Bool.not_false, decide_true, decide_false, bd, endsD, List.isEmpty_cons, ends_first, ends_last, if_pos l2, ne, Nat.zero_add, Nat.reduceAdd]))]
  -- the least number
  rw [seq_nx (S1 := En (.val (.int c)) (.val (.int s)) (.val (.int m)) (.val (.list (rowsL m c))) (.val (.list (hereL c s m))) (.val (.list (B.map fun k => .int ((k : Nat) : Int)))) (.val (frac p 20)) (.own (.list (goodL c s p (s - 1) (m - (s - 1))))) (.val (.int d)) x' (.val (.int wd)) .no .no) (w1 := w6) (by simp only [Eo, En, runM, runS, env0, flD, cal, sSeq, sIf, sRet, sRetN, sDrop, sAsg, sOwn, sFrz, frz, sPar, sPar3, sNx, sNo, sBk, sCt, sApp, sExt, sSetIx, sAug, sFor, sWhile, m1, m2, mC, mVar, mLook, mAnd, mOr, mNot, mIte, mB, mV, mTru, dTru, mAndV, mOrV, mNotV, mNil, mCons, mTup, mLst, mF, mFS, mItems, mRng, mRng1, mRng2, mRng3, dRng1, dRng2, dRng3, mEnum, mZip, mCut, mNoP, mPt, mRev, mNeg, dNeg, dRev, dCut, mLc, mYes, pName, pTup, pNil, pCons, wipeS, dAdd, dSub, dMul, dDiv, dMod, dMulI, dAddI, dCmp, dIsN, dNotN, isNone, dLenX, dLen, seqOf, dAbs, dMax2, dMin2, dInt, dTuple, dList, dCatL, dRepL, mSt, mStLen, mStCell, sSt, sSt3, drwGet, drwSet, mCh2, mCh3, mCount, dCount, Option.bind_some, Option.map_some, Option.bind_none, Option.map_none, List.getElem?_cons_zero, List.getElem?_cons_succ, List.set_cons_zero, List.set_cons_succ, List.map_cons, List.map_nil, List.cons_append, List.nil_append, List.replicate_succ, List.replicate_zero, List.length_cons, List.length_nil, if_true, if_false, reduceIte, Bool.false_eq_true, Bool.not_true, Bool.not_false, decide_true, decide_false, e5, e6, cd, if_pos l2, Nat.zero_add, Nat.reduceAdd])]
  obtain ⟨F, hF⟩ : ∃ F, F = (List.range 61).filter (lP d wd) := ⟨_, rfl⟩
  have hff : (List.range 61).find? (lP d wd) = F.head? := by rw [hF, List.head?_filter]
  rw [seq_nx (S1 := En (.val (.int c)) (.val (.int s)) (.val (.int m)) (.val (.list (rowsL m c))) (.val (.list (hereL c s m))) (.val (.list (B.map fun k => .int ((k : Nat) : Int)))) (.val (frac p 20)) (.own (.list (goodL c s p (s - 1) (m - (s - 1))))) (.val (.int d)) x' (.val (.int wd)) (.val (.list (F.map fun k => .int ((k : Nat) : Int)))) .no) (w1 := w6) (by
    unfold sAsg
    rw [first_list (by omega) (by omega) (by omega), Option.bind_some, hF]; rfl)]
  have lf := ev_least_for (d := d) (wd := wd) (by omega) (by omega) (by omega)
  rw [hff] at lf
  cases F with
  | nil =>
    have lf' : G_least_for [.int d, .int wd] = some .none := lf
    have ee := dEq_refl (d := .none) rfl
    simp only [En, runM, runS, env0, flD, cal, sSeq, sIf, sRet, sRetN, sDrop, sAsg, sOwn, sFrz, frz, sPar, sPar3, sNx, sNo, sBk, sCt, sApp, sExt, sSetIx, sAug, sFor, sWhile, m1, m2, mC, mVar, mLook, mAnd, mOr, mNot, mIte, mB, mV, mTru, dTru, mAndV, mOrV, mNotV, mNil, mCons, mTup, mLst, mF, mFS, mItems, mRng, mRng1, mRng2, mRng3, dRng1, dRng2, dRng3, mEnum, mZip, mCut, mNoP, mPt, mRev, mNeg, dNeg, dRev, dCut, mLc, mYes, pName, pTup, pNil, pCons, wipeS, dAdd, dSub, dMul, dDiv, dMod, dMulI, dAddI, dCmp, dIsN, dNotN, isNone, dLenX, dLen, seqOf, dAbs, dMax2, dMin2, dInt, dTuple, dList, dCatL, dRepL, mSt, mStLen, mStCell, sSt, sSt3, drwGet, drwSet, mCh2, mCh3, mCount, dCount, Option.bind_some, Option.map_some, Option.bind_none, Option.map_none, List.getElem?_cons_zero, List.getElem?_cons_succ, List.set_cons_zero, List.set_cons_succ, List.map_cons, List.map_nil, List.cons_append, List.nil_append, List.replicate_succ, List.replicate_zero, List.length_cons, List.length_nil, if_true, if_false, reduceIte, Bool.false_eq_true, Bool.not_true, Bool.not_false, decide_true, decide_false, lf', List.isEmpty_nil, ee, Nat.zero_add, Nat.reduceAdd]
  | cons x xs =>
    have lf' : G_least_for [.int d, .int wd] = some (.int (x : Nat)) := lf
    have ee := dEq_refl (d := .int (x : Nat)) rfl
    simp only [En, runM, runS, env0, flD, cal, sSeq, sIf, sRet, sRetN, sDrop, sAsg, sOwn, sFrz, frz, sPar, sPar3, sNx, sNo, sBk, sCt, sApp, sExt, sSetIx, sAug, sFor, sWhile, m1, m2, mC, mVar, mLook, mAnd, mOr, mNot, mIte, mB, mV, mTru, dTru, mAndV, mOrV, mNotV, mNil, mCons, mTup, mLst, mF, mFS, mItems, mRng, mRng1, mRng2, mRng3, dRng1, dRng2, dRng3, mEnum, mZip, mCut, mNoP, mPt, mRev, mNeg, dNeg, dRev, dCut, mLc, mYes, pName, pTup, pNil, pCons, wipeS, dAdd, dSub, dMul, dDiv, dMod, dMulI, dAddI, dCmp, dIsN, dNotN, isNone, dLenX, dLen, seqOf, dAbs, dMax2, dMin2, dInt, dTuple, dList, dCatL, dRepL, mSt, mStLen, mStCell, sSt, sSt3, drwGet, drwSet, mCh2, mCh3, mCount, dCount, Option.bind_some, Option.map_some, Option.bind_none, Option.map_none, List.getElem?_cons_zero, List.getElem?_cons_succ, List.set_cons_zero, List.set_cons_succ, List.map_cons, List.map_nil, List.cons_append, List.nil_append, List.replicate_succ, List.replicate_zero, List.length_cons, List.length_nil, if_true, if_false, reduceIte, Bool.false_eq_true, Bool.not_true, Bool.not_false, decide_true, decide_false, lf', List.isEmpty_cons, ends_first, ee, Nat.zero_add, Nat.reduceAdd]
theorem law_good : Good 1 m_law := by
  intro w h
  have t2 : (2 : Int).toNat = 2 := rfl
  have sm : smallI 2 = true := rfl
  obtain ⟨a1, f1, j1⟩ := ev_chances_hold h (by omega)
  obtain ⟨a2, f2, j2⟩ := ev_numbers_hold j1 (by omega)
  obtain ⟨a3, f3, j3⟩ := ev_counts_hold j2 (by omega)
  obtain ⟨b1, g1, k1⟩ := ev_chances_hold j3 (by omega)
  obtain ⟨b2, g2, k2⟩ := ev_numbers_hold k1 (by omega)
  obtain ⟨b3, g3, k3⟩ := ev_counts_hold k2 (by omega)
  refine ⟨[.no, .stt, .val (.int 1)], b3, ?_⟩
  unfold m_law
  simp only [runM, runS, env0, flD, cal, sSeq, sIf, sRet, sRetN, sDrop, sAsg, sOwn, sFrz, frz, sPar, sPar3, sNx, sNo, sBk, sCt, sApp, sExt, sSetIx, sAug, sFor, sWhile, m1, m2, mC, mVar, mLook, mAnd, mOr, mNot, mIte, mB, mV, mTru, dTru, mAndV, mOrV, mNotV, mNil, mCons, mTup, mLst, mF, mFS, mItems, mRng, mRng1, mRng2, mRng3, dRng1, dRng2, dRng3, mEnum, mZip, mCut, mNoP, mPt, mRev, mNeg, dNeg, dRev, dCut, mLc, mYes, pName, pTup, pNil, pCons, wipeS, dAdd, dSub, dMul, dDiv, dMod, dMulI, dAddI, dCmp, dIsN, dNotN, isNone, dLenX, dLen, seqOf, dAbs, dMax2, dMin2, dInt, dTuple, dList, dCatL, dRepL, mSt, mStLen, mStCell, sSt, sSt3, drwGet, drwSet, mCh2, mCh3, mCount, dCount, Option.bind_some, Option.map_some, Option.bind_none, Option.map_none, List.getElem?_cons_zero, List.getElem?_cons_succ, List.set_cons_zero, List.set_cons_succ, List.map_cons, List.map_nil, List.cons_append, List.nil_append, List.replicate_succ, List.replicate_zero, List.length_cons, List.length_nil, if_true, if_false, reduceIte, Bool.false_eq_true, Bool.not_true, Bool.not_false, decide_true, decide_false, if_pos sm, t2]
  rw [rngD_succ, rngD_succ, rngD_zero]
  simp only [forGo_cons, runM, runS, env0, flD, cal, sSeq, sIf, sRet, sRetN, sDrop, sAsg, sOwn, sFrz, frz, sPar, sPar3, sNx, sNo, sBk, sCt, sApp, sExt, sSetIx, sAug, sFor, sWhile, m1, m2, mC, mVar, mLook, mAnd, mOr, mNot, mIte, mB, mV, mTru, dTru, mAndV, mOrV, mNotV, mNil, mCons, mTup, mLst, mF, mFS, mItems, mRng, mRng1, mRng2, mRng3, dRng1, dRng2, dRng3, mEnum, mZip, mCut, mNoP, mPt, mRev, mNeg, dNeg, dRev, dCut, mLc, mYes, pName, pTup, pNil, pCons, wipeS, dAdd, dSub, dMul, dDiv, dMod, dMulI, dAddI, dCmp, dIsN, dNotN, isNone, dLenX, dLen, seqOf, dAbs, dMax2, dMin2, dInt, dTuple, dList, dCatL, dRepL, mSt, mStLen, mStCell, sSt, sSt3, drwGet, drwSet, mCh2, mCh3, mCount, dCount, Option.bind_some, Option.map_some, Option.bind_none, Option.map_none, List.getElem?_cons_zero, List.getElem?_cons_succ, List.set_cons_zero, List.set_cons_succ, List.map_cons, List.map_nil, List.cons_append, List.nil_append, List.replicate_succ, List.replicate_zero, List.length_cons, List.length_nil, if_true, if_false, reduceIte, Bool.false_eq_true, Bool.not_true, Bool.not_false, decide_true, decide_false, f1, f2, f3, g1, g2, g3]
  rfl
end K70

set_option Elab.async false
set_option linter.all false
set_option maxRecDepth 100000
set_option maxHeartbeats 4000000
namespace K70
open PySem PySem.Spec PyProof.Rows L2 Mini
def topS (i : Nat) : Stmt := PySem.Challenge.pw_hoardsread_k70_whole_chances_of_dies_ste.main.body.getD i (.Pass ⟨0, 0, 0, 0⟩)
/-- the names that the top leaves free, its constants -/
structure Zs (mg : Str → Option Value) : Prop where
  abs : mg "abs" = none
  all : mg "all" = none
  bool : mg "bool" = none
  enumerate : mg "enumerate" = none
  int : mg "int" = none
  isinstance : mg "isinstance" = none
  len : mg "len" = none
  list : mg "list" = none
  max : mg "max" = none
  min : mg "min" = none
  range : mg "range" = none
  repr : mg "repr" = none
  set : mg "set" = none
  sorted : mg "sorted" = none
  sum : mg "sum" = none
  tuple : mg "tuple" = none
  c_MAX_COINS : ∃ t, mg "MAX_COINS" = some (.int 60 t)
  c_MAX_DIES : ∃ t, mg "MAX_DIES" = some (.int 40 t)
abbrev s_is_integer : Stmt := topS 4
abbrev N_is_integer : List Str := ["value"]
theorem sc_is_integer : FnScope N_is_integer ["value"] (defScope s_is_integer) := C8.fnScope_by (by decide +kernel)
abbrev s_check_dies : Stmt := topS 8
abbrev N_check_dies : List Str := ["dies", "reason"]
theorem sc_check_dies : FnScope N_check_dies ["dies", "reason"] (defScope s_check_dies) := C8.fnScope_by (by decide +kernel)
abbrev s_check_coins : Stmt := topS 9
abbrev N_check_coins : List Str := ["coins"]
theorem sc_check_coins : FnScope N_check_coins ["coins"] (defScope s_check_coins) := C8.fnScope_by (by decide +kernel)
abbrev s_ways_table : Stmt := topS 12
abbrev N_ways_table : List Str := ["dies", "coins", "rows", "whole", "coin", "seen"]
theorem sc_ways_table : FnScope N_ways_table ["dies", "coins"] (defScope s_ways_table) := C8.fnScope_by (by decide +kernel)
abbrev s_quotient : Stmt := topS 11
abbrev N_quotient : List Str := ["up", "down", "one", "other"]
theorem sc_quotient : FnScope N_quotient ["up", "down"] (defScope s_quotient) := C8.fnScope_by (by decide +kernel)
abbrev s_chances_seen : Stmt := topS 13
abbrev N_chances_seen : List Str := ["dies", "coins", "rows", "whole", "own"]
theorem sc_chances_seen : FnScope N_chances_seen ["dies", "coins"] (defScope s_chances_seen) := C8.fnScope_by (by decide +kernel)
abbrev s_L_draw : Stmt := topS 28
abbrev N_L_draw : List Str := ["state", "many", "found"]
theorem sc_L_draw : FnScope N_L_draw ["state", "many"] (defScope s_L_draw) := C8.fnScope_by (by decide +kernel)
abbrev s_L_same : Stmt := topS 29
abbrev N_L_same : List Str := ["actual", "due"]
theorem sc_L_same : FnScope N_L_same ["actual", "due"] (defScope s_L_same) := C8.fnScope_by (by decide +kernel)
abbrev s_mean_seen : Stmt := topS 14
abbrev N_mean_seen : List Str := ["dies", "coins", "rows", "whole", "seen", "own"]
theorem sc_mean_seen : FnScope N_mean_seen ["dies", "coins"] (defScope s_mean_seen) := C8.fnScope_by (by decide +kernel)
abbrev s_L_divisor : Stmt := topS 30
abbrev N_L_divisor : List Str := ["one", "other"]
theorem sc_L_divisor : FnScope N_L_divisor ["one", "other"] (defScope s_L_divisor) := C8.fnScope_by (by decide +kernel)
abbrev s_L_quotient : Stmt := topS 31
abbrev N_L_quotient : List Str := ["up", "down", "common"]
theorem sc_L_quotient : FnScope N_L_quotient ["up", "down"] (defScope s_L_quotient) := C8.fnScope_by (by decide +kernel)
abbrev s_check_seen : Stmt := topS 10
abbrev N_check_seen : List Str := ["seen"]
theorem sc_check_seen : FnScope N_check_seen ["seen"] (defScope s_check_seen) := C8.fnScope_by (by decide +kernel)
abbrev s_check_more : Stmt := topS 24
abbrev N_check_more : List Str := ["dies", "seen", "more"]
theorem sc_check_more : FnScope N_check_more ["dies", "seen", "more"] (defScope s_check_more) := C8.fnScope_by (by decide +kernel)
abbrev s_chance_new : Stmt := topS 23
abbrev N_chance_new : List Str := ["dies", "seen", "more", "up", "down", "coin"]
theorem sc_chance_new : FnScope N_chance_new ["dies", "seen", "more"] (defScope s_chance_new) := C8.fnScope_by (by decide +kernel)
abbrev s_L_added : Stmt := topS 32
abbrev N_L_added : List Str := ["rows", "up", "down", "own"]
theorem sc_L_added : FnScope N_L_added ["rows"] (defScope s_L_added) := C8.fnScope_by (by decide +kernel)
abbrev s_L_chances_hold : Stmt := topS 34
abbrev N_L_chances_hold : List Str := ["state", "dies", "coins", "row", "due", "k", "stay", "new", "up", "down", "turn", "seen", "more"]
theorem sc_L_chances_hold : FnScope N_L_chances_hold ["state"] (defScope s_L_chances_hold) := C8.fnScope_by (by decide +kernel)
abbrev s_likeliest_dies : Stmt := topS 15
abbrev N_likeliest_dies : List Str := ["coins", "seen", "most", "best", "dies", "rows", "whole"]
theorem sc_likeliest_dies : FnScope N_likeliest_dies ["coins", "seen", "most"] (defScope s_likeliest_dies) := C8.fnScope_by (by decide +kernel)
abbrev s_check_part : Stmt := topS 17
abbrev N_check_part : List Str := ["part", "own"]
theorem sc_check_part : FnScope N_check_part ["part"] (defScope s_check_part) := C8.fnScope_by (by decide +kernel)
abbrev s_dies_bounds : Stmt := topS 16
abbrev N_dies_bounds : List Str := ["coins", "seen", "part", "most", "good", "dies", "rows", "whole", "low", "high"]
theorem sc_dies_bounds : FnScope N_dies_bounds ["coins", "seen", "part", "most"] (defScope s_dies_bounds) := C8.fnScope_by (by decide +kernel)
abbrev s_least_for : Stmt := topS 21
abbrev N_least_for : List Str := ["dies", "wanted", "coins", "rows", "whole", "seen", "own"]
theorem sc_least_for : FnScope N_least_for ["dies", "wanted"] (defScope s_least_for) := C8.fnScope_by (by decide +kernel)
abbrev s_L_is_less : Stmt := topS 33
abbrev N_L_is_less : List Str := ["one", "other"]
theorem sc_L_is_less : FnScope N_L_is_less ["one", "other"] (defScope s_L_is_less) := C8.fnScope_by (by decide +kernel)
abbrev s_L_numbers_hold : Stmt := topS 35
abbrev N_L_numbers_hold : List Str := ["state", "coins", "seen", "most", "rows", "here", "best", "part", "good", "dies", "row", "wanted", "first", "own", "k"]
theorem sc_L_numbers_hold : FnScope N_L_numbers_hold ["state"] (defScope s_L_numbers_hold) := C8.fnScope_by (by decide +kernel)
abbrev s_check_counts : Stmt := topS 18
abbrev N_check_counts : List Str := ["counts", "own"]
theorem sc_check_counts : FnScope N_check_counts ["counts"] (defScope s_check_counts) := C8.fnScope_by (by decide +kernel)
abbrev s_chance_alike : Stmt := topS 22
abbrev N_chance_alike : List Str := ["counts", "whole", "own"]
theorem sc_chance_alike : FnScope N_chance_alike ["counts"] (defScope s_chance_alike) := C8.fnScope_by (by decide +kernel)
abbrev s_judge_counts : Stmt := topS 25
abbrev N_judge_counts : List Str := ["coins", "counts", "gap"]
theorem sc_judge_counts : FnScope N_judge_counts ["coins", "counts"] (defScope s_judge_counts) := C8.fnScope_by (by decide +kernel)
abbrev s_coverage : Stmt := topS 19
abbrev N_coverage : List Str := ["counts", "single", "own"]
theorem sc_coverage : FnScope N_coverage ["counts"] (defScope s_coverage) := C8.fnScope_by (by decide +kernel)
abbrev s_often_seen : Stmt := topS 20
abbrev N_often_seen : List Str := ["counts", "own", "one"]
theorem sc_often_seen : FnScope N_often_seen ["counts"] (defScope s_often_seen) := C8.fnScope_by (by decide +kernel)
abbrev s_L_pick_size : Stmt := topS 37
abbrev N_L_pick_size : List Str := ["state"]
theorem sc_L_pick_size : FnScope N_L_pick_size ["state"] (defScope s_L_pick_size) := C8.fnScope_by (by decide +kernel)
abbrev s_L_counts_hold : Stmt := topS 36
abbrev N_L_counts_hold : List Str := ["state", "counts", "whole", "once", "rows", "alike", "pairs", "unlike", "told", "joined", "own", "k"]
theorem sc_L_counts_hold : FnScope N_L_counts_hold ["state"] (defScope s_L_counts_hold) := C8.fnScope_by (by decide +kernel)
abbrev s_law : Stmt := topS 38
abbrev N_law : List Str := ["script", "state", "turn"]
theorem sc_law : FnScope N_law ["script"] (defScope s_law) := C8.fnScope_by (by decide +kernel)
abbrev s_L_start : Stmt := topS 27
abbrev N_L_start : List Str := ["script", "seed", "cell"]
theorem sc_L_start : FnScope N_L_start ["script"] (defScope s_L_start) := C8.fnScope_by (by decide +kernel)
section
variable {P : Program} {w : World} {K : PySem.W.Frag} {mg : Str → Option Value} {base : Heap} {f : Addr} {fd : FuncData}
theorem f_is_integer (z : Zs mg) (F : FunD K "is_integer" "is_integer" (defArgs s_is_integer) (defBody s_is_integer) (defScope s_is_integer) [] [] f fd)  : FnG P w K mg base 1 f fd ["value"] (spM true 1 G_is_integer) :=
  def_M (b := m_is_integer) F sc_is_integer rfl rfl fun cdv A outer s H hr => (db_one (ds_ret (de_top (de_and (de_isi (by rfl) z.isinstance bt_isinstance (by rfl) z.int bt_int (de_look (pv 0))) (de_one (de_notX (de_isi (by rfl) z.isinstance bt_isinstance (by rfl) z.bool bt_bool (de_look (pv 0)))))))))
theorem f_check_dies (z : Zs mg) (F : FunD K "check_dies" "check_dies" (defArgs s_check_dies) (defBody s_check_dies) (defScope s_check_dies) [V.str "dies"] [] f fd) (D_is_integer : DefP P w K mg base 1 "is_integer" (spM true 1 G_is_integer) []) : FnG P w K mg base 2 f fd ["dies", "reason"] (spM true 2 G_check_dies) :=
  def_M (b := m_check_dies) F sc_check_dies rfl rfl fun cdv A outer s H hr => (db_one (ds_if (dt_w (dw_or (dt_not (dt_tru (de_call D_is_integer (hr.mono (by decide)) (by rfl) (da_cons (de_var (pv 0)) da_nil)))) (dw_or1 (dt_not (dt_ch2 op_le op_le op_cmp' op_cmp' de_int (de_look (pv 0)) (de_gconst (by rfl) z.c_MAX_DIES))))))
    (db_one ds_no) db_nil))
theorem f_check_coins (z : Zs mg) (F : FunD K "check_coins" "check_coins" (defArgs s_check_coins) (defBody s_check_coins) (defScope s_check_coins) [] [] f fd) (D_is_integer : DefP P w K mg base 1 "is_integer" (spM true 1 G_is_integer) []) : FnG P w K mg base 2 f fd ["coins"] (spM true 1 G_check_coins) :=
  def_M (b := m_check_coins) F sc_check_coins rfl rfl fun cdv A outer s H hr => (db_one (ds_if (dt_w (dw_or (dt_not (dt_tru (de_call D_is_integer (hr.mono (by decide)) (by rfl) (da_cons (de_var (pv 0)) da_nil)))) (dw_or1 (dt_not (dt_ch2 op_le op_le op_cmp' op_cmp' de_int (de_look (pv 0)) (de_gconst (by rfl) z.c_MAX_COINS))))))
    (db_one ds_no) db_nil))
theorem f_ways_table (z : Zs mg) (F : FunD K "ways_table" "ways_table" (defArgs s_ways_table) (defBody s_ways_table) (defScope s_ways_table) [] [] f fd)  : FnG P w K mg base 1 f fd ["dies", "coins"] (spM true 2 G_ways_table) :=
  def_M (b := m_ways_table) F sc_ways_table rfl rfl fun cdv A outer s H hr => (db_cons (ds_asg (us := [2]) (de_add (de_lst (da_cons de_int da_nil)) (de_mul (de_lst (da_cons de_int da_nil)) (de_look (pv 0)))) (dg_name (i := 2) sc_ways_table.nd rfl (by first | exact .inl rfl | exact .inr rfl)))
    (db_cons (ds_asg (us := [3]) de_int (dg_name (i := 3) sc_ways_table.nd rfl (by first | exact .inl rfl | exact .inr rfl)))
    (db_cons (ds_for (us := [4]) PassesOwn.never rfl (di_range1 (by rfl) z.range (da_cons (de_var (pv 1)) da_nil)) (dg_name (i := 4) sc_ways_table.nd rfl (by first | exact .inl rfl | exact .inr rfl))
    (db_cons (ds_asg (us := [2]) (de_lc (own := [("seen", 5)]) rfl sc_ways_table.nd (di_range1 (by rfl) z.range (da_cons (de_add (de_look (pv 0)) de_int) da_nil)) (by exact blkOk_by (N := N_ways_table) (sc := defScope s_ways_table) (by decide +kernel)) (fun _ _ _ _ _ => (dg_name (i := 5) sc_ways_table.nd rfl (by first | exact .inl rfl | exact .inr rfl))) (fun _ _ _ _ _ => dts_nil) (fun _ _ _ _ _ => (de_add (de_mul (de_index (de_look (pv 2)) (de_look (pv 5))) (de_look (pv 5))) (de_if (dt_tru (de_look (pv 5))) (de_mul (de_index (de_look (pv 2)) (de_sub (de_look (pv 5)) de_int)) (de_add (de_sub (de_look (pv 0)) (de_look (pv 5))) de_int)) de_int)))) (dg_name (i := 2) sc_ways_table.nd rfl (by first | exact .inl rfl | exact .inr rfl)))
    (db_one (ds_augMul (i := 3) sc_ways_table.nd rfl (by first | exact .inl rfl | exact .inr rfl) (de_look (pv 0))))))
    (db_one (ds_ret (de_top (de_tup (da_cons (de_var (pv 2)) (da_cons (de_var (pv 3)) da_nil)))))))))
theorem f_quotient (z : Zs mg) (F : FunD K "quotient" "quotient" (defArgs s_quotient) (defBody s_quotient) (defScope s_quotient) [] [] f fd)  : FnG P w K mg base 1 f fd ["up", "down"] (spM true 2 G_quotient) :=
  def_M (b := m_quotient) F sc_quotient rfl rfl fun cdv A outer s H hr => (db_cons (ds_par (i := 2) (j := 3) rfl sc_quotient.nd rfl rfl (by decide) rfl rfl (da_cons (de_var (pv 0)) (da_cons (de_var (pv 1)) da_nil)) (by rfl))
    (db_cons (ds_while 100000 PassesOwn.never (dt_tru (de_look (pv 3)))
    (db_one (ds_par (i := 2) (j := 3) rfl sc_quotient.nd rfl rfl (by decide) rfl rfl (da_cons (de_var (pv 3)) (da_cons (de_mod (de_look (pv 2)) (de_look (pv 3))) da_nil)) (by rfl))))
    (db_one (ds_ret (de_top (de_tup (da_cons (de_div (de_look (pv 0)) (de_look (pv 2))) (da_cons (de_div (de_look (pv 1)) (de_look (pv 2))) da_nil))))))))
theorem f_chances_seen (z : Zs mg) (F : FunD K "chances_seen" "chances_seen" (defArgs s_chances_seen) (defBody s_chances_seen) (defScope s_chances_seen) [] [] f fd) (D_check_dies_1 : DefP P w K mg base 2 "check_dies" (spM true 2 G_check_dies) [V.str "dies"]) (D_check_coins : DefP P w K mg base 2 "check_coins" (spM true 1 G_check_coins) []) (D_ways_table : DefP P w K mg base 1 "ways_table" (spM true 2 G_ways_table) []) (D_quotient : DefP P w K mg base 1 "quotient" (spM true 2 G_quotient) []) : FnG P w K mg base 3 f fd ["dies", "coins"] (spM true 2 G_chances_seen) :=
  def_M (b := m_chances_seen) F sc_chances_seen rfl rfl fun cdv A outer s H hr => (db_cons (ds_drop (de_callD (dd := [PyData.str "dies"]) D_check_dies_1 (fun _ _ => .cons (Dv.str _) (.nil)) (hr.mono (by decide)) (by rfl) (da_cons (de_var (pv 0)) da_nil)))
    (db_cons (ds_drop (de_call D_check_coins (hr.mono (by decide)) (by rfl) (da_cons (de_var (pv 1)) da_nil)))
    (db_cons (ds_asg (us := [2, 3]) (de_call D_ways_table (hr.mono (by decide)) (by rfl) (da_cons (de_var (pv 0)) (da_cons (de_var (pv 1)) da_nil))) (dg_tupV (dg_tup rfl (dgs_cons (dg_name (i := 2) sc_chances_seen.nd rfl (by first | exact .inl rfl | exact .inr rfl)) (dgs_cons (dg_name (i := 3) sc_chances_seen.nd rfl (by first | exact .inl rfl | exact .inr rfl)) dgs_nil)))))
    (db_one (ds_ret (de_top (de_callT (call_tupB _) fn_tuple (by rfl) z.tuple bt_tuple (da_cons (de_top (de_lc (own := [("own", 4)]) rfl sc_chances_seen.nd (di_seq (de_look (pv 2))) (by exact blkOk_by (N := N_chances_seen) (sc := defScope s_chances_seen) (by decide +kernel)) (fun _ _ _ _ _ => (dg_name (i := 4) sc_chances_seen.nd rfl (by first | exact .inl rfl | exact .inr rfl))) (fun _ _ _ _ _ => dts_nil) (fun _ _ _ _ _ => (de_call D_quotient (hr.mono (by decide)) (by rfl) (da_cons (de_var (pv 4)) (da_cons (de_var (pv 3)) da_nil)))))) da_nil))))))))
theorem f_L_draw (z : Zs mg) (F : FunD K "_law_draw" "_law_draw" (defArgs s_L_draw) (defBody s_L_draw) (defScope s_L_draw) [] [] f fd)  : FnG P w K mg base 1 f fd ["state", "many"] (spS true 1 G_L_draw) :=
  def_S (b := m_L_draw) F sc_L_draw rfl rfl fun cdv A outer s H hr => (db_cons (ds_if (dt_w (dw_and (dt_eq hr.rm (de_st (k := 3) (pv 0)) de_int) (dw_and1 (dt_lt (de_st (k := 1) (pv 0)) (de_stLen (pv 0) (by rfl) z.len)))))
    (db_one (ds_st3 (k1 := 2) (k2 := 3) (k3 := 1) rfl (pv 0) (pv 0) (pv 0) (da_cons (de_stCell (pv 0) (de_st (k := 1) (pv 0))) (da_cons de_int (da_cons (de_add (de_st (k := 1) (pv 0)) de_int) da_nil))))) db_nil)
    (db_cons (ds_if (dt_gt (de_st (k := 3) (pv 0)) de_int)
    (db_cons (ds_asg (us := [2]) (de_mod (de_callT call_int1 fn_int (by rfl) z.int bt_int (da_cons (de_top (de_st (k := 2) (pv 0))) da_nil)) (de_look (pv 1))) (dg_name (i := 2) sc_L_draw.nd rfl (by first | exact .inl rfl | exact .inr rfl)))
    (db_cons (ds_st (k := 2) (pv 0) (de_div (de_st (k := 2) (pv 0)) (de_look (pv 1))))
    (db_cons (ds_st (k := 3) (pv 0) (de_if (dt_gt (de_st (k := 2) (pv 0)) de_int) (de_sub (de_st (k := 3) (pv 0)) de_int) de_int))
    (db_one (ds_ret (de_look (pv 2))))))) db_nil)
    (db_cons (ds_st (k := 5) (pv 0) (de_add (de_st (k := 5) (pv 0)) de_int))
    (db_cons (ds_st (k := 4) (pv 0) (de_mod (de_callT call_int1 fn_int (by rfl) z.int bt_int (da_cons (de_top (de_add (de_add (de_mul (de_st (k := 4) (pv 0)) de_int) (de_mul (de_mul (de_st (k := 5) (pv 0)) (de_st (k := 5) (pv 0))) de_int)) de_int)) da_nil)) de_int))
    (db_one (ds_ret (de_top (de_mod (de_callT call_int1 fn_int (by rfl) z.int bt_int (da_cons (de_top (de_div (de_st (k := 4) (pv 0)) de_int)) da_nil)) (de_look (pv 1))))))))))
theorem f_L_same (z : Zs mg) (F : FunD K "_law_same" "_law_same" (defArgs s_L_same) (defBody s_L_same) (defScope s_L_same) [] [] f fd)  : FnG P w K mg base 1 f fd ["actual", "due"] (spM true 2 G_L_same) :=
  def_M (b := m_L_same) F sc_L_same rfl rfl fun cdv A outer s H hr => (db_one (ds_ret (de_top (de_and (de_eq hr.rm (de_look (pv 0)) (de_look (pv 1))) (de_one (de_eq hr.rm (de_callB (call_reprD hr.gd hr.rm.units) fn_repr (by rfl) z.repr bt_repr (da_cons (de_look (pv 0)) da_nil)) (de_callB (call_reprD hr.gd hr.rm.units) fn_repr (by rfl) z.repr bt_repr (da_cons (de_look (pv 1)) da_nil))))))))
theorem f_mean_seen (z : Zs mg) (F : FunD K "mean_seen" "mean_seen" (defArgs s_mean_seen) (defBody s_mean_seen) (defScope s_mean_seen) [] [] f fd) (D_check_dies_1 : DefP P w K mg base 2 "check_dies" (spM true 2 G_check_dies) [V.str "dies"]) (D_check_coins : DefP P w K mg base 2 "check_coins" (spM true 1 G_check_coins) []) (D_ways_table : DefP P w K mg base 1 "ways_table" (spM true 2 G_ways_table) []) (D_quotient : DefP P w K mg base 1 "quotient" (spM true 2 G_quotient) []) : FnG P w K mg base 3 f fd ["dies", "coins"] (spM true 2 G_mean_seen) :=
  def_M (b := m_mean_seen) F sc_mean_seen rfl rfl fun cdv A outer s H hr => (db_cons (ds_drop (de_callD (dd := [PyData.str "dies"]) D_check_dies_1 (fun _ _ => .cons (Dv.str _) (.nil)) (hr.mono (by decide)) (by rfl) (da_cons (de_var (pv 0)) da_nil)))
    (db_cons (ds_drop (de_call D_check_coins (hr.mono (by decide)) (by rfl) (da_cons (de_var (pv 1)) da_nil)))
    (db_cons (ds_asg (us := [2, 3]) (de_call D_ways_table (hr.mono (by decide)) (by rfl) (da_cons (de_var (pv 0)) (da_cons (de_var (pv 1)) da_nil))) (dg_tupV (dg_tup rfl (dgs_cons (dg_name (i := 2) sc_mean_seen.nd rfl (by first | exact .inl rfl | exact .inr rfl)) (dgs_cons (dg_name (i := 3) sc_mean_seen.nd rfl (by first | exact .inl rfl | exact .inr rfl)) dgs_nil)))))
    (db_one (ds_ret (de_top (de_call D_quotient (hr.mono (by decide)) (by rfl) (da_cons (de_callB (call_sumX rfl) fn_sum (by rfl) z.sum bt_sum (da_cons (de_top (de_lc (own := [("seen", 4), ("own", 5)]) rfl sc_mean_seen.nd (di_enum (by rfl) z.enumerate (de_look (pv 2))) (by exact blkOk_by (N := N_mean_seen) (sc := defScope s_mean_seen) (by decide +kernel)) (fun _ _ _ _ _ => (dg_tup rfl (dgs_cons (dg_name (i := 4) sc_mean_seen.nd rfl (by first | exact .inl rfl | exact .inr rfl)) (dgs_cons (dg_name (i := 5) sc_mean_seen.nd rfl (by first | exact .inl rfl | exact .inr rfl)) dgs_nil)))) (fun _ _ _ _ _ => dts_nil) (fun _ _ _ _ _ => (de_mul (de_look (pv 4)) (de_look (pv 5)))))) da_nil)) (da_cons (de_var (pv 3)) da_nil)))))))))
theorem f_L_divisor (z : Zs mg) (F : FunD K "_law_divisor" "_law_divisor" (defArgs s_L_divisor) (defBody s_L_divisor) (defScope s_L_divisor) [] [] f fd)  : FnG P w K mg base 1 f fd ["one", "other"] (spM true 2 G_L_divisor) :=
  def_M (b := m_L_divisor) F sc_L_divisor rfl rfl fun cdv A outer s H hr => (db_cons (ds_while 100000 PassesOwn.never (dt_tru (de_look (pv 1)))
    (db_one (ds_par (i := 0) (j := 1) rfl sc_L_divisor.nd rfl rfl (by decide) rfl rfl (da_cons (de_var (pv 1)) (da_cons (de_sub (de_look (pv 0)) (de_mul (de_div (de_look (pv 0)) (de_look (pv 1))) (de_look (pv 1)))) da_nil)) (by rfl))))
    (db_one (ds_ret (de_top (de_callB call_abs fn_abs (by rfl) z.abs bt_abs (da_cons (de_look (pv 0)) da_nil))))))
theorem f_L_quotient (z : Zs mg) (F : FunD K "_law_quotient" "_law_quotient" (defArgs s_L_quotient) (defBody s_L_quotient) (defScope s_L_quotient) [] [] f fd) (D_L_divisor : DefP P w K mg base 1 "_law_divisor" (spM true 2 G_L_divisor) []) : FnG P w K mg base 2 f fd ["up", "down"] (spM true 2 G_L_quotient) :=
  def_M (b := m_L_quotient) F sc_L_quotient rfl rfl fun cdv A outer s H hr => (db_cons (ds_asg (us := [2]) (de_call D_L_divisor (hr.mono (by decide)) (by rfl) (da_cons (de_var (pv 0)) (da_cons (de_var (pv 1)) da_nil))) (dg_name (i := 2) sc_L_quotient.nd rfl (by first | exact .inl rfl | exact .inr rfl)))
    (db_one (ds_ret (de_top (de_tup (da_cons (de_div (de_look (pv 0)) (de_look (pv 2))) (da_cons (de_div (de_look (pv 1)) (de_look (pv 2))) da_nil)))))))
theorem f_check_seen (z : Zs mg) (F : FunD K "check_seen" "check_seen" (defArgs s_check_seen) (defBody s_check_seen) (defScope s_check_seen) [] [] f fd) (D_is_integer : DefP P w K mg base 1 "is_integer" (spM true 1 G_is_integer) []) : FnG P w K mg base 2 f fd ["seen"] (spM true 1 G_check_seen) :=
  def_M (b := m_check_seen) F sc_check_seen rfl rfl fun cdv A outer s H hr => (db_one (ds_if (dt_w (dw_or (dt_not (dt_tru (de_call D_is_integer (hr.mono (by decide)) (by rfl) (da_cons (de_var (pv 0)) da_nil)))) (dw_or1 (dt_not (dt_ch2 op_le op_le op_cmp' op_cmp' de_int (de_look (pv 0)) (de_gconst (by rfl) z.c_MAX_DIES))))))
    (db_one ds_no) db_nil))
theorem f_check_more (z : Zs mg) (F : FunD K "check_more" "check_more" (defArgs s_check_more) (defBody s_check_more) (defScope s_check_more) [] [] f fd) (D_is_integer : DefP P w K mg base 1 "is_integer" (spM true 1 G_is_integer) []) : FnG P w K mg base 2 f fd ["dies", "seen", "more"] (spM true 3 G_check_more) :=
  def_M (b := m_check_more) F sc_check_more rfl rfl fun cdv A outer s H hr => (db_cons (ds_if (dt_gt (de_look (pv 1)) (de_look (pv 0)))
    (db_one ds_no) db_nil)
    (db_one (ds_if (dt_w (dw_or (dt_not (dt_tru (de_call D_is_integer (hr.mono (by decide)) (by rfl) (da_cons (de_var (pv 2)) da_nil)))) (dw_or1 (dt_not (dt_ch2 op_le op_le op_cmp' op_cmp' de_int (de_look (pv 2)) (de_gconst (by rfl) z.c_MAX_COINS))))))
    (db_one ds_no) db_nil)))
theorem f_chance_new (z : Zs mg) (F : FunD K "chance_new" "chance_new" (defArgs s_chance_new) (defBody s_chance_new) (defScope s_chance_new) [] [] f fd) (D_check_dies_1 : DefP P w K mg base 2 "check_dies" (spM true 2 G_check_dies) [V.str "dies"]) (D_check_seen : DefP P w K mg base 2 "check_seen" (spM true 1 G_check_seen) []) (D_check_more : DefP P w K mg base 2 "check_more" (spM true 3 G_check_more) []) (D_quotient : DefP P w K mg base 1 "quotient" (spM true 2 G_quotient) []) : FnG P w K mg base 3 f fd ["dies", "seen", "more"] (spM true 3 G_chance_new) :=
  def_M (b := m_chance_new) F sc_chance_new rfl rfl fun cdv A outer s H hr => (db_cons (ds_drop (de_callD (dd := [PyData.str "dies"]) D_check_dies_1 (fun _ _ => .cons (Dv.str _) (.nil)) (hr.mono (by decide)) (by rfl) (da_cons (de_var (pv 0)) da_nil)))
    (db_cons (ds_drop (de_call D_check_seen (hr.mono (by decide)) (by rfl) (da_cons (de_var (pv 1)) da_nil)))
    (db_cons (ds_drop (de_call D_check_more (hr.mono (by decide)) (by rfl) (da_cons (de_var (pv 0)) (da_cons (de_var (pv 1)) (da_cons (de_var (pv 2)) da_nil)))))
    (db_cons (ds_asg (us := [3, 4]) (de_tup (da_cons de_int (da_cons de_int da_nil))) (dg_tupV (dg_tup rfl (dgs_cons (dg_name (i := 3) sc_chance_new.nd rfl (by first | exact .inl rfl | exact .inr rfl)) (dgs_cons (dg_name (i := 4) sc_chance_new.nd rfl (by first | exact .inl rfl | exact .inr rfl)) dgs_nil)))))
    (db_cons (ds_for (us := [5]) PassesOwn.never rfl (di_range1 (by rfl) z.range (da_cons (de_var (pv 2)) da_nil)) (dg_name (i := 5) sc_chance_new.nd rfl (by first | exact .inl rfl | exact .inr rfl))
    (db_cons (ds_augMul (i := 3) sc_chance_new.nd rfl (by first | exact .inl rfl | exact .inr rfl) (de_look (pv 1)))
    (db_one (ds_augMul (i := 4) sc_chance_new.nd rfl (by first | exact .inl rfl | exact .inr rfl) (de_look (pv 0))))))
    (db_one (ds_ret (de_top (de_call D_quotient (hr.mono (by decide)) (by rfl) (da_cons (de_sub (de_look (pv 4)) (de_look (pv 3))) (da_cons (de_var (pv 4)) da_nil)))))))))))
theorem f_L_added (z : Zs mg) (F : FunD K "_law_added" "_law_added" (defArgs s_L_added) (defBody s_L_added) (defScope s_L_added) [] [] f fd) (D_L_quotient : DefP P w K mg base 2 "_law_quotient" (spM true 2 G_L_quotient) []) : FnG P w K mg base 3 f fd ["rows"] (spM true 1 G_L_added) :=
  def_M (b := m_L_added) F sc_L_added rfl rfl fun cdv A outer s H hr => (db_cons (ds_asg (us := [1, 2]) (de_tup (da_cons de_int (da_cons de_int da_nil))) (dg_tupV (dg_tup rfl (dgs_cons (dg_name (i := 1) sc_L_added.nd rfl (by first | exact .inl rfl | exact .inr rfl)) (dgs_cons (dg_name (i := 2) sc_L_added.nd rfl (by first | exact .inl rfl | exact .inr rfl)) dgs_nil)))))
    (db_cons (ds_for (us := [3]) PassesOwn.never rfl (di_seq (de_var (pv 0))) (dg_name (i := 3) sc_L_added.nd rfl (by first | exact .inl rfl | exact .inr rfl))
    (db_one (ds_asg (us := [1, 2]) (de_call D_L_quotient (hr.mono (by decide)) (by rfl) (da_cons (de_add (de_mul (de_look (pv 1)) (de_index (de_look (pv 3)) de_int)) (de_mul (de_index (de_look (pv 3)) de_int) (de_look (pv 2)))) (da_cons (de_mul (de_look (pv 2)) (de_index (de_look (pv 3)) de_int)) da_nil))) (dg_tupV (dg_tup rfl (dgs_cons (dg_name (i := 1) sc_L_added.nd rfl (by first | exact .inl rfl | exact .inr rfl)) (dgs_cons (dg_name (i := 2) sc_L_added.nd rfl (by first | exact .inl rfl | exact .inr rfl)) dgs_nil)))))))
    (db_one (ds_ret (de_top (de_tup (da_cons (de_var (pv 1)) (da_cons (de_var (pv 2)) da_nil))))))))
theorem f_L_chances_hold (z : Zs mg) (F : FunD K "_law_chances_hold" "_law_chances_hold" (defArgs s_L_chances_hold) (defBody s_L_chances_hold) (defScope s_L_chances_hold) [] [] f fd) (D_chances_seen : DefP P w K mg base 3 "chances_seen" (spM true 2 G_chances_seen) []) (D_L_draw : DefP P w K mg base 1 "_law_draw" (spS true 1 G_L_draw) []) (D_L_same : DefP P w K mg base 1 "_law_same" (spM true 2 G_L_same) []) (D_mean_seen : DefP P w K mg base 3 "mean_seen" (spM true 2 G_mean_seen) []) (D_L_quotient : DefP P w K mg base 2 "_law_quotient" (spM true 2 G_L_quotient) []) (D_chance_new : DefP P w K mg base 3 "chance_new" (spM true 3 G_chance_new) []) (D_L_added : DefP P w K mg base 3 "_law_added" (spM true 1 G_L_added) []) : FnG P w K mg base 4 f fd ["state"] (spS true 0 G_L_chances_hold) :=
  def_S (b := m_L_chances_hold) F sc_L_chances_hold rfl rfl fun cdv A outer s H hr => (db_cons (ds_par (i := 1) (j := 2) rfl sc_L_chances_hold.nd rfl rfl (by decide) rfl rfl (da_cons (de_add de_int (de_callS D_L_draw (hr.mono (by decide)) (by rfl) (pv 0) (da_cons de_int da_nil))) (da_cons (de_callS D_L_draw (hr.mono (by decide)) (by rfl) (pv 0) (da_cons de_int da_nil)) da_nil)) (by rfl))
    (db_cons (ds_asg (us := [3]) (de_call D_chances_seen (hr.mono (by decide)) (by rfl) (da_cons (de_var (pv 1)) (da_cons (de_var (pv 2)) da_nil))) (dg_name (i := 3) sc_L_chances_hold.nd rfl (by first | exact .inl rfl | exact .inr rfl)))
    (db_cons (ds_if (dt_w (dw_or (dt_ne hr.rm (de_callB call_len fn_len (by rfl) z.len bt_len (da_cons (de_look (pv 3)) da_nil)) (de_add (de_look (pv 1)) de_int)) (dw_or (dt_ne hr.rm (de_call D_L_added (hr.mono (by decide)) (by rfl) (da_cons (de_callT call_list_of fn_list (by rfl) z.list bt_list (da_cons (de_look (pv 3)) da_nil)) da_nil)) (de_tup (da_cons de_int (da_cons de_int da_nil)))) (dw_or1 (dt_ne hr.rm (de_call D_L_added (hr.mono (by decide)) (by rfl) (da_cons (de_lc (own := [("k", 5)]) rfl sc_L_chances_hold.nd (di_range1 (by rfl) z.range (da_cons (de_add (de_look (pv 1)) de_int) da_nil)) (by exact blkOk_by (N := N_L_chances_hold) (sc := defScope s_L_chances_hold) (by decide +kernel)) (fun _ _ _ _ _ => (dg_name (i := 5) sc_L_chances_hold.nd rfl (by first | exact .inl rfl | exact .inr rfl))) (fun _ _ _ _ _ => dts_nil) (fun _ _ _ _ _ => (de_call D_L_quotient (hr.mono (by decide)) (by rfl) (da_cons (de_mul (de_look (pv 5)) (de_index (de_index (de_look (pv 3)) (de_look (pv 5))) de_int)) (da_cons (de_index (de_index (de_look (pv 3)) (de_look (pv 5))) de_int) da_nil))))) da_nil)) (de_call D_mean_seen (hr.mono (by decide)) (by rfl) (da_cons (de_var (pv 1)) (da_cons (de_var (pv 2)) da_nil))))))))
    (db_one (ds_ret (de_top de_bl))) db_nil)
    (db_cons (ds_own (i := 4) sc_L_chances_hold.nd rfl (by first | exact .inl rfl | exact .inr rfl) (df_lst da_nil))
    (db_cons (ds_for (us := [5]) PassesOwn.never rfl (di_range1 (by rfl) z.range (da_cons (de_add (de_look (pv 1)) de_int) da_nil)) (dg_name (i := 5) sc_L_chances_hold.nd rfl (by first | exact .inl rfl | exact .inr rfl))
    (db_cons (ds_par (i := 6) (j := 7) rfl sc_L_chances_hold.nd rfl rfl (by decide) rfl rfl (da_cons (de_call D_L_quotient (hr.mono (by decide)) (by rfl) (da_cons (de_mul (de_index (de_index (de_look (pv 3)) (de_look (pv 5))) de_int) (de_look (pv 5))) (da_cons (de_mul (de_index (de_index (de_look (pv 3)) (de_look (pv 5))) de_int) (de_look (pv 1))) da_nil))) (da_cons (de_if (dt_tru (de_look (pv 5))) (de_call D_L_quotient (hr.mono (by decide)) (by rfl) (da_cons (de_mul (de_index (de_index (de_look (pv 3)) (de_sub (de_look (pv 5)) de_int)) de_int) (de_add (de_sub (de_look (pv 1)) (de_look (pv 5))) de_int)) (da_cons (de_mul (de_index (de_index (de_look (pv 3)) (de_sub (de_look (pv 5)) de_int)) de_int) (de_look (pv 1))) da_nil))) (de_tup (da_cons de_int (da_cons de_int da_nil)))) da_nil)) (by rfl))
    (db_one (ds_append (pv 4) (de_call D_L_added (hr.mono (by decide)) (by rfl) (da_cons (de_lst (da_cons (de_var (pv 6)) (da_cons (de_var (pv 7)) da_nil))) da_nil))))))
    (db_cons (ds_if (dt_not (dt_tru (de_call D_L_same (hr.mono (by decide)) (by rfl) (da_cons (de_call D_chances_seen (hr.mono (by decide)) (by rfl) (da_cons (de_var (pv 1)) (da_cons (de_add (de_look (pv 2)) de_int) da_nil))) (da_cons (de_callT (call_tupB _) fn_tuple (by rfl) z.tuple bt_tuple (da_cons (de_look (pv 4)) da_nil)) da_nil)))))
    (db_one (ds_ret (de_top de_bl))) db_nil)
    (db_cons (ds_asg (us := [8, 9]) (de_tup (da_cons de_int (da_cons de_int da_nil))) (dg_tupV (dg_tup rfl (dgs_cons (dg_name (i := 8) sc_L_chances_hold.nd rfl (by first | exact .inl rfl | exact .inr rfl)) (dgs_cons (dg_name (i := 9) sc_L_chances_hold.nd rfl (by first | exact .inl rfl | exact .inr rfl)) dgs_nil)))))
    (db_cons (ds_for (us := [10]) PassesOwn.never rfl (di_range1 (by rfl) z.range (da_cons (de_var (pv 2)) da_nil)) (dg_name (i := 10) sc_L_chances_hold.nd rfl (by first | exact .inl rfl | exact .inr rfl))
    (db_one (ds_par (i := 8) (j := 9) rfl sc_L_chances_hold.nd rfl rfl (by decide) rfl rfl (da_cons (de_mul (de_look (pv 8)) (de_sub (de_look (pv 1)) de_int)) (da_cons (de_mul (de_look (pv 9)) (de_look (pv 1))) da_nil)) (by rfl))))
    (db_cons (ds_if (dt_ne hr.rm (de_call D_mean_seen (hr.mono (by decide)) (by rfl) (da_cons (de_var (pv 1)) (da_cons (de_var (pv 2)) da_nil))) (de_call D_L_quotient (hr.mono (by decide)) (by rfl) (da_cons (de_mul (de_look (pv 1)) (de_sub (de_look (pv 9)) (de_look (pv 8)))) (da_cons (de_var (pv 9)) da_nil))))
    (db_one (ds_ret (de_top de_bl))) db_nil)
    (db_cons (ds_par (i := 11) (j := 12) rfl sc_L_chances_hold.nd rfl rfl (by decide) rfl rfl (da_cons (de_callS D_L_draw (hr.mono (by decide)) (by rfl) (pv 0) (da_cons (de_add (de_look (pv 1)) de_int) da_nil)) (da_cons (de_callS D_L_draw (hr.mono (by decide)) (by rfl) (pv 0) (da_cons de_int da_nil)) da_nil)) (by rfl))
    (db_cons (ds_asg (us := [8, 9]) (de_tup (da_cons de_int (da_cons de_int da_nil))) (dg_tupV (dg_tup rfl (dgs_cons (dg_name (i := 8) sc_L_chances_hold.nd rfl (by first | exact .inl rfl | exact .inr rfl)) (dgs_cons (dg_name (i := 9) sc_L_chances_hold.nd rfl (by first | exact .inl rfl | exact .inr rfl)) dgs_nil)))))
    (db_cons (ds_for (us := [10]) PassesOwn.never rfl (di_range1 (by rfl) z.range (da_cons (de_var (pv 12)) da_nil)) (dg_name (i := 10) sc_L_chances_hold.nd rfl (by first | exact .inl rfl | exact .inr rfl))
    (db_one (ds_par (i := 8) (j := 9) rfl sc_L_chances_hold.nd rfl rfl (by decide) rfl rfl (da_cons (de_mul (de_look (pv 8)) (de_look (pv 11))) (da_cons (de_mul (de_look (pv 9)) (de_look (pv 1))) da_nil)) (by rfl))))
    (db_one (ds_ret (de_top (de_eq hr.rm (de_call D_chance_new (hr.mono (by decide)) (by rfl) (da_cons (de_var (pv 1)) (da_cons (de_var (pv 11)) (da_cons (de_var (pv 12)) da_nil)))) (de_call D_L_quotient (hr.mono (by decide)) (by rfl) (da_cons (de_sub (de_look (pv 9)) (de_look (pv 8))) (da_cons (de_var (pv 9)) da_nil)))))))))))))))))))
theorem f_likeliest_dies (z : Zs mg) (F : FunD K "likeliest_dies" "likeliest_dies" (defArgs s_likeliest_dies) (defBody s_likeliest_dies) (defScope s_likeliest_dies) [] [] f fd) (D_check_coins : DefP P w K mg base 2 "check_coins" (spM true 1 G_check_coins) []) (D_check_seen : DefP P w K mg base 2 "check_seen" (spM true 1 G_check_seen) []) (D_check_dies : DefP P w K mg base 2 "check_dies" (spM true 2 G_check_dies) []) (D_ways_table : DefP P w K mg base 1 "ways_table" (spM true 2 G_ways_table) []) : FnG P w K mg base 3 f fd ["coins", "seen", "most"] (spM true 3 G_likeliest_dies) :=
  def_M (b := m_likeliest_dies) F sc_likeliest_dies rfl rfl fun cdv A outer s H hr => (db_cons (ds_drop (de_call D_check_coins (hr.mono (by decide)) (by rfl) (da_cons (de_var (pv 0)) da_nil)))
    (db_cons (ds_drop (de_call D_check_seen (hr.mono (by decide)) (by rfl) (da_cons (de_var (pv 1)) da_nil)))
    (db_cons (ds_drop (de_call D_check_dies (hr.mono (by decide)) (by rfl) (da_cons (de_var (pv 2)) (da_cons de_str da_nil))))
    (db_cons (ds_asg (us := [3]) de_non (dg_name (i := 3) sc_likeliest_dies.nd rfl (by first | exact .inl rfl | exact .inr rfl)))
    (db_cons (ds_for (us := [4]) PassesOwn.never rfl (di_range2 (by rfl) z.range (da_cons (de_callB (call_max2 rfl) fn_max2 (by rfl) z.max bt_max (da_cons (de_top de_int) (da_cons (de_look (pv 1)) da_nil))) (da_cons (de_add (de_look (pv 2)) de_int) da_nil))) (dg_name (i := 4) sc_likeliest_dies.nd rfl (by first | exact .inl rfl | exact .inr rfl))
    (db_cons (ds_asg (us := [5, 6]) (de_call D_ways_table (hr.mono (by decide)) (by rfl) (da_cons (de_var (pv 4)) (da_cons (de_var (pv 0)) da_nil))) (dg_tupV (dg_tup rfl (dgs_cons (dg_name (i := 5) sc_likeliest_dies.nd rfl (by first | exact .inl rfl | exact .inr rfl)) (dgs_cons (dg_name (i := 6) sc_likeliest_dies.nd rfl (by first | exact .inl rfl | exact .inr rfl)) dgs_nil)))))
    (db_one (ds_if (dt_w (dw_and (dt_tru (de_index (de_look (pv 5)) (de_look (pv 1)))) (dw_and1 (dt_w (dw_or (dt_is (de_look (pv 3)) de_non) (dw_or1 (dt_gt (de_mul (de_index (de_look (pv 5)) (de_look (pv 1))) (de_index (de_look (pv 3)) de_int)) (de_mul (de_index (de_look (pv 3)) de_int) (de_look (pv 6))))))))))
    (db_one (ds_asg (us := [3]) (de_tup (da_cons (de_index (de_look (pv 5)) (de_look (pv 1))) (da_cons (de_var (pv 6)) (da_cons (de_var (pv 4)) da_nil)))) (dg_name (i := 3) sc_likeliest_dies.nd rfl (by first | exact .inl rfl | exact .inr rfl)))) db_nil))))
    (db_one (ds_ret (de_if (dt_is (de_look (pv 3)) de_non) (de_top de_non) (de_top (de_index (de_look (pv 3)) de_int))))))))))
theorem f_check_part (z : Zs mg) (F : FunD K "check_part" "check_part" (defArgs s_check_part) (defBody s_check_part) (defScope s_check_part) [] [] f fd) (D_quotient : DefP P w K mg base 1 "quotient" (spM true 2 G_quotient) []) (D_is_integer : DefP P w K mg base 1 "is_integer" (spM true 1 G_is_integer) []) : FnG P w K mg base 2 f fd ["part"] (spM true 1 G_check_part) :=
  def_M (b := m_check_part) F sc_check_part rfl rfl fun cdv A outer s H hr => (db_cons (ds_if (dt_w (dw_or (dt_not (dt_tru (de_isi (by rfl) z.isinstance bt_isinstance (by rfl) z.tuple bt_tuple (de_look (pv 0))))) (dw_or (dt_ne hr.rm (de_callB call_len fn_len (by rfl) z.len bt_len (da_cons (de_look (pv 0)) da_nil)) de_int) (dw_or1 (dt_not (dt_tru (de_callB (cr_all rfl) fn_all (by rfl) z.all bt_all (da_cons (de_top (de_lc (own := [("own", 1)]) rfl sc_check_part.nd (di_seq (de_look (pv 0))) (by exact blkOk_by (N := N_check_part) (sc := defScope s_check_part) (by decide +kernel)) (fun _ _ _ _ _ => (dg_name (i := 1) sc_check_part.nd rfl (by first | exact .inl rfl | exact .inr rfl))) (fun _ _ _ _ _ => dts_nil) (fun _ _ _ _ _ => (de_call D_is_integer (hr.mono (by decide)) (by rfl) (da_cons (de_var (pv 1)) da_nil))))) da_nil))))))))
    (db_one ds_no) db_nil)
    (db_one (ds_if (dt_w (dw_or (dt_not (dt_ch3 op_le op_le op_le op_cmp' op_cmp' op_cmp' de_int (de_index (de_look (pv 0)) de_int) (de_index (de_look (pv 0)) de_int) de_int)) (dw_or1 (dt_ne hr.rm (de_call D_quotient (hr.mono (by decide)) (by rfl) (da_cons (de_index (de_look (pv 0)) de_int) (da_cons (de_index (de_look (pv 0)) de_int) da_nil))) (de_look (pv 0))))))
    (db_one ds_no) db_nil)))
theorem f_dies_bounds (z : Zs mg) (F : FunD K "dies_bounds" "dies_bounds" (defArgs s_dies_bounds) (defBody s_dies_bounds) (defScope s_dies_bounds) [] [] f fd) (D_check_coins : DefP P w K mg base 2 "check_coins" (spM true 1 G_check_coins) []) (D_check_seen : DefP P w K mg base 2 "check_seen" (spM true 1 G_check_seen) []) (D_check_part : DefP P w K mg base 2 "check_part" (spM true 1 G_check_part) []) (D_check_dies : DefP P w K mg base 2 "check_dies" (spM true 2 G_check_dies) []) (D_ways_table : DefP P w K mg base 1 "ways_table" (spM true 2 G_ways_table) []) : FnG P w K mg base 3 f fd ["coins", "seen", "part", "most"] (spM true 4 G_dies_bounds) :=
  def_M (b := m_dies_bounds) F sc_dies_bounds rfl rfl fun cdv A outer s H hr => (db_cons (ds_drop (de_call D_check_coins (hr.mono (by decide)) (by rfl) (da_cons (de_var (pv 0)) da_nil)))
    (db_cons (ds_drop (de_call D_check_seen (hr.mono (by decide)) (by rfl) (da_cons (de_var (pv 1)) da_nil)))
    (db_cons (ds_drop (de_call D_check_part (hr.mono (by decide)) (by rfl) (da_cons (de_var (pv 2)) da_nil)))
    (db_cons (ds_drop (de_call D_check_dies (hr.mono (by decide)) (by rfl) (da_cons (de_var (pv 3)) (da_cons de_str da_nil))))
    (db_cons (ds_own (i := 4) sc_dies_bounds.nd rfl (by first | exact .inl rfl | exact .inr rfl) (df_lst da_nil))
    (db_cons (ds_for (us := [5]) PassesOwn.never rfl (di_range2 (by rfl) z.range (da_cons (de_callB (call_max2 rfl) fn_max2 (by rfl) z.max bt_max (da_cons (de_top de_int) (da_cons (de_look (pv 1)) da_nil))) (da_cons (de_add (de_look (pv 3)) de_int) da_nil))) (dg_name (i := 5) sc_dies_bounds.nd rfl (by first | exact .inl rfl | exact .inr rfl))
    (db_cons (ds_asg (us := [6, 7]) (de_call D_ways_table (hr.mono (by decide)) (by rfl) (da_cons (de_var (pv 5)) (da_cons (de_var (pv 0)) da_nil))) (dg_tupV (dg_tup rfl (dgs_cons (dg_name (i := 6) sc_dies_bounds.nd rfl (by first | exact .inl rfl | exact .inr rfl)) (dgs_cons (dg_name (i := 7) sc_dies_bounds.nd rfl (by first | exact .inl rfl | exact .inr rfl)) dgs_nil)))))
    (db_cons (ds_par (i := 8) (j := 9) rfl sc_dies_bounds.nd rfl rfl (by decide) rfl rfl (da_cons (de_callB (call_sumX rfl) fn_sum (by rfl) z.sum bt_sum (da_cons (de_top (de_slice (de_look (pv 6)) do_none (do_some (de_add (de_look (pv 1)) de_int)))) da_nil)) (da_cons (de_callB (call_sumX rfl) fn_sum (by rfl) z.sum bt_sum (da_cons (de_top (de_slice (de_look (pv 6)) (do_some (de_var (pv 1))) do_none)) da_nil)) da_nil)) (by rfl))
    (db_one (ds_if (dt_ge (de_mul (de_callB (call_min2 rfl) fn_min2 (by rfl) z.min bt_min (da_cons (de_look (pv 8)) (da_cons (de_look (pv 9)) da_nil))) (de_index (de_look (pv 2)) de_int)) (de_mul (de_index (de_look (pv 2)) de_int) (de_look (pv 7))))
    (db_one (ds_append (pv 4) (de_var (pv 5)))) db_nil)))))
    (db_one (ds_ret (de_if (dt_tru (de_look (pv 4))) (de_top (de_tup (da_cons (de_index (de_look (pv 4)) de_int) (da_cons (de_index (de_look (pv 4)) (de_neg de_int)) da_nil)))) (de_top de_non))))))))))
theorem f_least_for (z : Zs mg) (F : FunD K "least_for" "least_for" (defArgs s_least_for) (defBody s_least_for) (defScope s_least_for) [] [] f fd) (D_check_dies_1 : DefP P w K mg base 2 "check_dies" (spM true 2 G_check_dies) [V.str "dies"]) (D_ways_table : DefP P w K mg base 1 "ways_table" (spM true 2 G_ways_table) []) (D_is_integer : DefP P w K mg base 1 "is_integer" (spM true 1 G_is_integer) []) : FnG P w K mg base 3 f fd ["dies", "wanted"] (spM true 2 G_least_for) :=
  def_M (b := m_least_for) F sc_least_for rfl rfl fun cdv A outer s H hr => (db_cons (ds_drop (de_callD (dd := [PyData.str "dies"]) D_check_dies_1 (fun _ _ => .cons (Dv.str _) (.nil)) (hr.mono (by decide)) (by rfl) (da_cons (de_var (pv 0)) da_nil)))
    (db_cons (ds_if (dt_w (dw_or (dt_not (dt_tru (de_call D_is_integer (hr.mono (by decide)) (by rfl) (da_cons (de_var (pv 1)) da_nil)))) (dw_or1 (dt_not (dt_ch2 op_le op_le op_cmp' op_cmp' de_int (de_look (pv 1)) (de_gconst (by rfl) z.c_MAX_DIES))))))
    (db_one ds_no) db_nil)
    (db_cons (ds_for (us := [2]) PassesOwn.never rfl (di_range1 (by rfl) z.range (da_cons (de_add (de_gconst (by rfl) z.c_MAX_COINS) de_int) da_nil)) (dg_name (i := 2) sc_least_for.nd rfl (by first | exact .inl rfl | exact .inr rfl))
    (db_cons (ds_asg (us := [3, 4]) (de_call D_ways_table (hr.mono (by decide)) (by rfl) (da_cons (de_var (pv 0)) (da_cons (de_var (pv 2)) da_nil))) (dg_tupV (dg_tup rfl (dgs_cons (dg_name (i := 3) sc_least_for.nd rfl (by first | exact .inl rfl | exact .inr rfl)) (dgs_cons (dg_name (i := 4) sc_least_for.nd rfl (by first | exact .inl rfl | exact .inr rfl)) dgs_nil)))))
    (db_one (ds_if (dt_ge (de_callB (call_sumX rfl) fn_sum (by rfl) z.sum bt_sum (da_cons (de_top (de_lc (own := [("seen", 5), ("own", 6)]) rfl sc_least_for.nd (di_enum (by rfl) z.enumerate (de_look (pv 3))) (by exact blkOk_by (N := N_least_for) (sc := defScope s_least_for) (by decide +kernel)) (fun _ _ _ _ _ => (dg_tup rfl (dgs_cons (dg_name (i := 5) sc_least_for.nd rfl (by first | exact .inl rfl | exact .inr rfl)) (dgs_cons (dg_name (i := 6) sc_least_for.nd rfl (by first | exact .inl rfl | exact .inr rfl)) dgs_nil)))) (fun _ _ _ _ _ => dts_nil) (fun _ _ _ _ _ => (de_mul (de_look (pv 5)) (de_look (pv 6)))))) da_nil)) (de_mul (de_look (pv 1)) (de_look (pv 4))))
    (db_one (ds_ret (de_look (pv 2)))) db_nil))))
    (db_one (ds_ret (de_top de_non))))))
theorem f_L_is_less (z : Zs mg) (F : FunD K "_law_is_less" "_law_is_less" (defArgs s_L_is_less) (defBody s_L_is_less) (defScope s_L_is_less) [] [] f fd)  : FnG P w K mg base 1 f fd ["one", "other"] (spM true 2 G_L_is_less) :=
  def_M (b := m_L_is_less) F sc_L_is_less rfl rfl fun cdv A outer s H hr => (db_one (ds_ret (de_top (de_lt (de_mul (de_index (de_look (pv 0)) de_int) (de_index (de_look (pv 1)) de_int)) (de_mul (de_index (de_look (pv 1)) de_int) (de_index (de_look (pv 0)) de_int))))))
theorem f_L_numbers_hold (z : Zs mg) (F : FunD K "_law_numbers_hold" "_law_numbers_hold" (defArgs s_L_numbers_hold) (defBody s_L_numbers_hold) (defScope s_L_numbers_hold) [] [] f fd) (D_L_quotient : DefP P w K mg base 2 "_law_quotient" (spM true 2 G_L_quotient) []) (D_L_draw : DefP P w K mg base 1 "_law_draw" (spS true 1 G_L_draw) []) (D_chances_seen : DefP P w K mg base 3 "chances_seen" (spM true 2 G_chances_seen) []) (D_likeliest_dies : DefP P w K mg base 3 "likeliest_dies" (spM true 3 G_likeliest_dies) []) (D_dies_bounds : DefP P w K mg base 3 "dies_bounds" (spM true 4 G_dies_bounds) []) (D_least_for : DefP P w K mg base 3 "least_for" (spM true 2 G_least_for) []) (D_L_is_less : DefP P w K mg base 1 "_law_is_less" (spM true 2 G_L_is_less) []) (D_mean_seen : DefP P w K mg base 3 "mean_seen" (spM true 2 G_mean_seen) []) (D_L_added : DefP P w K mg base 3 "_law_added" (spM true 1 G_L_added) []) : FnG P w K mg base 4 f fd ["state"] (spS true 0 G_L_numbers_hold) :=
  def_S (b := m_L_numbers_hold) F sc_L_numbers_hold rfl rfl fun cdv A outer s H hr => (db_cons (ds_asg (us := [1, 2, 3]) (de_tup (da_cons (de_callS D_L_draw (hr.mono (by decide)) (by rfl) (pv 0) (da_cons de_int da_nil)) (da_cons (de_callS D_L_draw (hr.mono (by decide)) (by rfl) (pv 0) (da_cons de_int da_nil)) (da_cons (de_add de_int (de_callS D_L_draw (hr.mono (by decide)) (by rfl) (pv 0) (da_cons de_int da_nil))) da_nil)))) (dg_tupV (dg_tup rfl (dgs_cons (dg_name (i := 1) sc_L_numbers_hold.nd rfl (by first | exact .inl rfl | exact .inr rfl)) (dgs_cons (dg_name (i := 2) sc_L_numbers_hold.nd rfl (by first | exact .inl rfl | exact .inr rfl)) (dgs_cons (dg_name (i := 3) sc_L_numbers_hold.nd rfl (by first | exact .inl rfl | exact .inr rfl)) dgs_nil))))))
    (db_cons (ds_lc (own := [("dies", 9)]) rfl sc_L_numbers_hold.nd (i := 4) rfl rfl (sw_true rfl rfl rfl rfl) (di_range2 (by rfl) z.range (da_cons de_int (da_cons (de_add (de_look (pv 3)) de_int) da_nil))) (by exact blkOk_by (N := N_L_numbers_hold) (sc := defScope s_L_numbers_hold) (by decide +kernel)) (fun _ _ _ _ _ => (dg_name (i := 9) sc_L_numbers_hold.nd rfl (by first | exact .inl rfl | exact .inr rfl))) (fun _ _ _ _ _ => dts_nil) (fun _ _ _ _ _ => (de_call D_chances_seen (hr.mono (by decide)) (by rfl) (da_cons (de_var (pv 9)) (da_cons (de_var (pv 1)) da_nil)))))
    (db_cons (ds_asg (us := [5]) (de_lc (own := [("own", 13)]) rfl sc_L_numbers_hold.nd (di_seq (de_look (pv 4))) (by exact blkOk_by (N := N_L_numbers_hold) (sc := defScope s_L_numbers_hold) (by decide +kernel)) (fun _ _ _ _ _ => (dg_name (i := 13) sc_L_numbers_hold.nd rfl (by first | exact .inl rfl | exact .inr rfl))) (fun _ _ _ _ _ => dts_nil) (fun _ _ _ _ _ => (de_if (dt_lt (de_look (pv 2)) (de_callB call_len fn_len (by rfl) z.len bt_len (da_cons (de_look (pv 13)) da_nil))) (de_index (de_look (pv 13)) (de_look (pv 2))) (de_tup (da_cons de_int (da_cons de_int da_nil)))))) (dg_name (i := 5) sc_L_numbers_hold.nd rfl (by first | exact .inl rfl | exact .inr rfl)))
    (db_cons (ds_lc (own := [("k", 14)]) rfl sc_L_numbers_hold.nd (i := 6) rfl rfl (sw_true rfl rfl rfl rfl) (di_range1 (by rfl) z.range (da_cons (de_var (pv 3)) da_nil)) (by exact blkOk_by (N := N_L_numbers_hold) (sc := defScope s_L_numbers_hold) (by decide +kernel)) (fun _ _ _ _ _ => (dg_name (i := 14) sc_L_numbers_hold.nd rfl (by first | exact .inl rfl | exact .inr rfl))) (fun _ _ _ _ _ => (dts_one (dt_w (dw_and (dt_gt (de_index (de_index (de_look (pv 5)) (de_look (pv 14))) de_int) de_int) (dw_and1 (dt_eq hr.rm (de_lc (own := [("own", 13)]) rfl sc_L_numbers_hold.nd (di_seq (de_look (pv 5))) (by exact blkOk_by (N := N_L_numbers_hold) (sc := relS _ (defScope s_L_numbers_hold)) (by decide +kernel)) (fun _ _ _ _ _ => (dg_name (i := 13) sc_L_numbers_hold.nd rfl (by first | exact .inl rfl | exact .inr rfl))) (fun _ _ _ _ _ => (dts_one (dt_tru (de_call D_L_is_less (hr.mono (by decide)) (by rfl) (da_cons (de_index (de_look (pv 5)) (de_look (pv 14))) (da_cons (de_var (pv 13)) da_nil)))))) (fun _ _ _ _ _ => (de_var (pv 13)))) (de_lst da_nil))))))) (fun _ _ _ _ _ => (de_var (pv 14))))
    (db_cons (ds_if (dt_ne hr.rm (de_call D_likeliest_dies (hr.mono (by decide)) (by rfl) (da_cons (de_var (pv 1)) (da_cons (de_var (pv 2)) (da_cons (de_var (pv 3)) da_nil)))) (de_if (dt_tru (de_look (pv 6))) (de_add (de_index (de_look (pv 6)) de_int) de_int) de_non))
    (db_one (ds_ret (de_top de_bl))) db_nil)
    (db_cons (ds_asg (us := [7]) (de_call D_L_quotient (hr.mono (by decide)) (by rfl) (da_cons (de_add de_int (de_callS D_L_draw (hr.mono (by decide)) (by rfl) (pv 0) (da_cons de_int da_nil))) (da_cons de_int da_nil))) (dg_name (i := 7) sc_L_numbers_hold.nd rfl (by first | exact .inl rfl | exact .inr rfl)))
    (db_cons (ds_own (i := 8) sc_L_numbers_hold.nd rfl (by first | exact .inl rfl | exact .inr rfl) (df_lst da_nil))
    (db_cons (ds_for (us := [9]) PassesOwn.never rfl (di_range2 (by rfl) z.range (da_cons (de_callB (call_maxX rfl hr.rm.units) fn_best (by rfl) z.max bt_max (da_cons (de_top (de_lst (da_cons de_int (da_cons (de_var (pv 2)) da_nil)))) da_nil)) (da_cons (de_add (de_look (pv 3)) de_int) da_nil))) (dg_name (i := 9) sc_L_numbers_hold.nd rfl (by first | exact .inl rfl | exact .inr rfl))
    (db_cons (ds_asg (us := [10]) (de_index (de_look (pv 4)) (de_sub (de_look (pv 9)) de_int)) (dg_name (i := 10) sc_L_numbers_hold.nd rfl (by first | exact .inl rfl | exact .inr rfl)))
    (db_one (ds_extend (pv 8) (de_if (dt_w (dw_and (dt_not (dt_tru (de_call D_L_is_less (hr.mono (by decide)) (by rfl) (da_cons (de_call D_L_added (hr.mono (by decide)) (by rfl) (da_cons (de_callT call_list_of fn_list (by rfl) z.list bt_list (da_cons (de_top (de_slice (de_look (pv 10)) do_none (do_some (de_add (de_look (pv 2)) de_int)))) da_nil)) da_nil)) (da_cons (de_var (pv 7)) da_nil))))) (dw_and1 (dt_not (dt_tru (de_call D_L_is_less (hr.mono (by decide)) (by rfl) (da_cons (de_call D_L_added (hr.mono (by decide)) (by rfl) (da_cons (de_callT call_list_of fn_list (by rfl) z.list bt_list (da_cons (de_top (de_slice (de_look (pv 10)) (do_some (de_var (pv 2))) do_none)) da_nil)) da_nil)) (da_cons (de_var (pv 7)) da_nil)))))))) (de_top (de_lst (da_cons (de_var (pv 9)) da_nil))) (de_top (de_lst da_nil)))))))
    (db_cons (ds_if (dt_ne hr.rm (de_call D_dies_bounds (hr.mono (by decide)) (by rfl) (da_cons (de_var (pv 1)) (da_cons (de_var (pv 2)) (da_cons (de_var (pv 7)) (da_cons (de_var (pv 3)) da_nil))))) (de_if (dt_tru (de_look (pv 8))) (de_tup (da_cons (de_index (de_look (pv 8)) de_int) (da_cons (de_index (de_look (pv 8)) (de_neg de_int)) da_nil))) de_non))
    (db_one (ds_ret (de_top de_bl))) db_nil)
    (db_cons (ds_asg (us := [9, 11]) (de_tup (da_cons (de_add de_int (de_callS D_L_draw (hr.mono (by decide)) (by rfl) (pv 0) (da_cons de_int da_nil))) (da_cons (de_callS D_L_draw (hr.mono (by decide)) (by rfl) (pv 0) (da_cons de_int da_nil)) da_nil))) (dg_tupV (dg_tup rfl (dgs_cons (dg_name (i := 9) sc_L_numbers_hold.nd rfl (by first | exact .inl rfl | exact .inr rfl)) (dgs_cons (dg_name (i := 11) sc_L_numbers_hold.nd rfl (by first | exact .inl rfl | exact .inr rfl)) dgs_nil)))))
    (db_cons (ds_lc (own := [("own", 13)]) rfl sc_L_numbers_hold.nd (i := 12) rfl rfl (sw_true rfl rfl rfl rfl) (di_range1 (by rfl) z.range (da_cons de_int da_nil)) (by exact blkOk_by (N := N_L_numbers_hold) (sc := defScope s_L_numbers_hold) (by decide +kernel)) (fun _ _ _ _ _ => (dg_name (i := 13) sc_L_numbers_hold.nd rfl (by first | exact .inl rfl | exact .inr rfl))) (fun _ _ _ _ _ => (dts_one (dt_not (dt_tru (de_call D_L_is_less (hr.mono (by decide)) (by rfl) (da_cons (de_call D_mean_seen (hr.mono (by decide)) (by rfl) (da_cons (de_var (pv 9)) (da_cons (de_var (pv 13)) da_nil))) (da_cons (de_tup (da_cons (de_var (pv 11)) (da_cons de_int da_nil))) da_nil))))))) (fun _ _ _ _ _ => (de_var (pv 13))))
    (db_one (ds_ret (de_top (de_eq hr.rm (de_call D_least_for (hr.mono (by decide)) (by rfl) (da_cons (de_var (pv 9)) (da_cons (de_var (pv 11)) da_nil))) (de_if (dt_tru (de_look (pv 12))) (de_index (de_look (pv 12)) de_int) de_non))))))))))))))))
theorem f_check_counts (z : Zs mg) (F : FunD K "check_counts" "check_counts" (defArgs s_check_counts) (defBody s_check_counts) (defScope s_check_counts) [] [] f fd) (D_is_integer : DefP P w K mg base 1 "is_integer" (spM true 1 G_is_integer) []) : FnG P w K mg base 2 f fd ["counts"] (spM true 1 G_check_counts) :=
  def_M (b := m_check_counts) F sc_check_counts rfl rfl fun cdv A outer s H hr => (db_cons (ds_if (dt_w (dw_or (dt_not (dt_tru (de_isi (by rfl) z.isinstance bt_isinstance (by rfl) z.tuple bt_tuple (de_look (pv 0))))) (dw_or1 (dt_not (dt_ch2 op_le op_le op_cmp' op_cmp' de_int (de_callB call_len fn_len (by rfl) z.len bt_len (da_cons (de_look (pv 0)) da_nil)) (de_gconst (by rfl) z.c_MAX_DIES))))))
    (db_one ds_no) db_nil)
    (db_one (ds_if (dt_not (dt_tru (de_callB (cr_all rfl) fn_all (by rfl) z.all bt_all (da_cons (de_top (de_lc (own := [("own", 1)]) rfl sc_check_counts.nd (di_seq (de_look (pv 0))) (by exact blkOk_by (N := N_check_counts) (sc := defScope s_check_counts) (by decide +kernel)) (fun _ _ _ _ _ => (dg_name (i := 1) sc_check_counts.nd rfl (by first | exact .inl rfl | exact .inr rfl))) (fun _ _ _ _ _ => dts_nil) (fun _ _ _ _ _ => (de_and (de_call D_is_integer (hr.mono (by decide)) (by rfl) (da_cons (de_var (pv 1)) da_nil)) (de_one (de_ch2 op_le op_le op_cmp' op_cmp' de_int (de_look (pv 1)) (de_gconst (by rfl) z.c_MAX_COINS))))))) da_nil))))
    (db_one ds_no) db_nil)))
theorem f_chance_alike (z : Zs mg) (F : FunD K "chance_alike" "chance_alike" (defArgs s_chance_alike) (defBody s_chance_alike) (defScope s_chance_alike) [] [] f fd) (D_check_counts : DefP P w K mg base 2 "check_counts" (spM true 1 G_check_counts) []) (D_quotient : DefP P w K mg base 1 "quotient" (spM true 2 G_quotient) []) : FnG P w K mg base 3 f fd ["counts"] (spM true 1 G_chance_alike) :=
  def_M (b := m_chance_alike) F sc_chance_alike rfl rfl fun cdv A outer s H hr => (db_cons (ds_drop (de_call D_check_counts (hr.mono (by decide)) (by rfl) (da_cons (de_var (pv 0)) da_nil)))
    (db_cons (ds_asg (us := [1]) (de_callB (call_sumX rfl) fn_sum (by rfl) z.sum bt_sum (da_cons (de_look (pv 0)) da_nil)) (dg_name (i := 1) sc_chance_alike.nd rfl (by first | exact .inl rfl | exact .inr rfl)))
    (db_cons (ds_if (dt_lt (de_look (pv 1)) de_int)
    (db_one (ds_ret (de_top de_non))) db_nil)
    (db_one (ds_ret (de_top (de_call D_quotient (hr.mono (by decide)) (by rfl) (da_cons (de_callB (call_sumX rfl) fn_sum (by rfl) z.sum bt_sum (da_cons (de_top (de_lc (own := [("own", 2)]) rfl sc_chance_alike.nd (di_seq (de_look (pv 0))) (by exact blkOk_by (N := N_chance_alike) (sc := defScope s_chance_alike) (by decide +kernel)) (fun _ _ _ _ _ => (dg_name (i := 2) sc_chance_alike.nd rfl (by first | exact .inl rfl | exact .inr rfl))) (fun _ _ _ _ _ => dts_nil) (fun _ _ _ _ _ => (de_mul (de_look (pv 2)) (de_sub (de_look (pv 2)) de_int))))) da_nil)) (da_cons (de_mul (de_look (pv 1)) (de_sub (de_look (pv 1)) de_int)) da_nil)))))))))
theorem f_judge_counts (z : Zs mg) (F : FunD K "judge_counts" "judge_counts" (defArgs s_judge_counts) (defBody s_judge_counts) (defScope s_judge_counts) [] [] f fd) (D_check_coins : DefP P w K mg base 2 "check_coins" (spM true 1 G_check_coins) []) (D_check_counts : DefP P w K mg base 2 "check_counts" (spM true 1 G_check_counts) []) : FnG P w K mg base 3 f fd ["coins", "counts"] (spM true 2 G_judge_counts) :=
  def_M (b := m_judge_counts) F sc_judge_counts rfl rfl fun cdv A outer s H hr => (db_cons (ds_drop (de_call D_check_coins (hr.mono (by decide)) (by rfl) (da_cons (de_var (pv 0)) da_nil)))
    (db_cons (ds_drop (de_call D_check_counts (hr.mono (by decide)) (by rfl) (da_cons (de_var (pv 1)) da_nil)))
    (db_cons (ds_asg (us := [2]) (de_sub (de_look (pv 0)) (de_callB (call_sumX rfl) fn_sum (by rfl) z.sum bt_sum (da_cons (de_look (pv 1)) da_nil))) (dg_name (i := 2) sc_judge_counts.nd rfl (by first | exact .inl rfl | exact .inr rfl)))
    (db_one (ds_ret (de_if (dt_eq hr.rm (de_look (pv 2)) de_int) (de_top (de_tup (da_cons de_str da_nil))) (de_top (de_tup (da_cons de_str (da_cons (de_var (pv 2)) da_nil))))))))))
theorem f_coverage (z : Zs mg) (F : FunD K "coverage" "coverage" (defArgs s_coverage) (defBody s_coverage) (defScope s_coverage) [] [] f fd) (D_check_counts : DefP P w K mg base 2 "check_counts" (spM true 1 G_check_counts) []) (D_quotient : DefP P w K mg base 1 "quotient" (spM true 2 G_quotient) []) : FnG P w K mg base 3 f fd ["counts"] (spM true 1 G_coverage) :=
  def_M (b := m_coverage) F sc_coverage rfl rfl fun cdv A outer s H hr => (db_cons (ds_drop (de_call D_check_counts (hr.mono (by decide)) (by rfl) (da_cons (de_var (pv 0)) da_nil)))
    (db_cons (ds_asg (us := [1]) (de_callB call_len fn_len (by rfl) z.len bt_len (da_cons (de_top (de_lc (own := [("own", 2)]) rfl sc_coverage.nd (di_seq (de_look (pv 0))) (by exact blkOk_by (N := N_coverage) (sc := defScope s_coverage) (by decide +kernel)) (fun _ _ _ _ _ => (dg_name (i := 2) sc_coverage.nd rfl (by first | exact .inl rfl | exact .inr rfl))) (fun _ _ _ _ _ => (dts_one (dt_eq hr.rm (de_look (pv 2)) de_int))) (fun _ _ _ _ _ => (de_var (pv 2))))) da_nil)) (dg_name (i := 1) sc_coverage.nd rfl (by first | exact .inl rfl | exact .inr rfl)))
    (db_one (ds_ret (de_top (de_call D_quotient (hr.mono (by decide)) (by rfl) (da_cons (de_sub (de_callB (call_sumX rfl) fn_sum (by rfl) z.sum bt_sum (da_cons (de_look (pv 0)) da_nil)) (de_look (pv 1))) (da_cons (de_callB (call_sumX rfl) fn_sum (by rfl) z.sum bt_sum (da_cons (de_look (pv 0)) da_nil)) da_nil))))))))
theorem f_often_seen (z : Zs mg) (F : FunD K "often_seen" "often_seen" (defArgs s_often_seen) (defBody s_often_seen) (defScope s_often_seen) [] [] f fd) (D_check_counts : DefP P w K mg base 2 "check_counts" (spM true 1 G_check_counts) []) : FnG P w K mg base 3 f fd ["counts"] (spM true 1 G_often_seen) :=
  def_M (b := m_often_seen) F sc_often_seen rfl rfl fun cdv A outer s H hr => (db_cons (ds_drop (de_call D_check_counts (hr.mono (by decide)) (by rfl) (da_cons (de_var (pv 0)) da_nil)))
    (db_one (ds_ret (de_top (de_callT (call_tupB _) fn_tuple (by rfl) z.tuple bt_tuple (da_cons (de_top (de_lc (own := [("own", 1)]) rfl sc_often_seen.nd (di_seq (de_top (de_callB (call_sortedDI rfl) fn_sortDI (by rfl) z.sorted bt_sorted (da_cons (de_top (de_dc (own := [("one", 2)]) rfl sc_often_seen.nd (di_seq (de_look (pv 0))) (by exact blkOk_by (N := N_often_seen) (sc := defScope s_often_seen) (by decide +kernel)) (fun _ _ _ _ _ => (dg_name (i := 2) sc_often_seen.nd rfl (by first | exact .inl rfl | exact .inr rfl))) (fun _ _ _ _ _ => dts_nil) (fun _ _ _ _ _ => (de_var (pv 2))) (fun _ _ _ _ _ => de_bl))) da_nil)))) (by exact blkOk_by (N := N_often_seen) (sc := defScope s_often_seen) (by decide +kernel)) (fun _ _ _ _ _ => (dg_name (i := 1) sc_often_seen.nd rfl (by first | exact .inl rfl | exact .inr rfl))) (fun _ _ _ _ _ => dts_nil) (fun _ _ _ _ _ => (de_tup (da_cons (de_var (pv 1)) (da_cons (de_count hr.rm.units (de_look (pv 0)) (de_look (pv 1))) da_nil)))))) da_nil))))))
theorem f_L_pick_size (z : Zs mg) (F : FunD K "_law_pick_size" "_law_pick_size" (defArgs s_L_pick_size) (defBody s_L_pick_size) (defScope s_L_pick_size) [] [] f fd) (D_L_draw : DefP P w K mg base 1 "_law_draw" (spS true 1 G_L_draw) []) : FnG P w K mg base 2 f fd ["state"] (spS true 0 G_L_pick_size) :=
  def_S (b := m_L_pick_size) F sc_L_pick_size rfl rfl fun cdv A outer s H hr => (db_one (ds_ret (de_top (de_index (de_lst (da_cons de_int (da_cons de_int (da_cons de_int (da_cons de_int da_nil))))) (de_callS D_L_draw (hr.mono (by decide)) (by rfl) (pv 0) (da_cons de_int da_nil))))))
theorem f_L_counts_hold (z : Zs mg) (F : FunD K "_law_counts_hold" "_law_counts_hold" (defArgs s_L_counts_hold) (defBody s_L_counts_hold) (defScope s_L_counts_hold) [] [] f fd) (D_chance_alike : DefP P w K mg base 3 "chance_alike" (spM true 1 G_chance_alike) []) (D_L_draw : DefP P w K mg base 1 "_law_draw" (spS true 1 G_L_draw) []) (D_judge_counts : DefP P w K mg base 3 "judge_counts" (spM true 2 G_judge_counts) []) (D_coverage : DefP P w K mg base 3 "coverage" (spM true 1 G_coverage) []) (D_L_quotient : DefP P w K mg base 2 "_law_quotient" (spM true 2 G_L_quotient) []) (D_L_same : DefP P w K mg base 1 "_law_same" (spM true 2 G_L_same) []) (D_L_is_less : DefP P w K mg base 1 "_law_is_less" (spM true 2 G_L_is_less) []) (D_often_seen : DefP P w K mg base 3 "often_seen" (spM true 1 G_often_seen) []) (D_L_pick_size : DefP P w K mg base 2 "_law_pick_size" (spS true 0 G_L_pick_size) []) : FnG P w K mg base 4 f fd ["state"] (spS true 0 G_L_counts_hold) :=
  def_S (b := m_L_counts_hold) F sc_L_counts_hold rfl rfl fun cdv A outer s H hr => (db_cons (ds_asg (us := [1]) (de_callT (call_tupB _) fn_tuple (by rfl) z.tuple bt_tuple (da_cons (de_top (de_lc (own := [("own", 10)]) rfl sc_L_counts_hold.nd (di_range1 (by rfl) z.range (da_cons (de_add de_int (de_callS D_L_draw (hr.mono (by decide)) (by rfl) (pv 0) (da_cons de_int da_nil))) da_nil)) (by exact blkOk_by (N := N_L_counts_hold) (sc := defScope s_L_counts_hold) (by decide +kernel)) (fun _ _ _ _ _ => (dg_name (i := 10) sc_L_counts_hold.nd rfl (by first | exact .inl rfl | exact .inr rfl))) (fun _ _ _ _ _ => dts_nil) (fun _ _ _ _ _ => (de_add de_int (de_callS D_L_draw (hr.mono (by decide)) (by rfl) (pv 0) (da_cons (de_callS D_L_pick_size (hr.mono (by decide)) (by rfl) (pv 0) da_nil) da_nil)))))) da_nil)) (dg_name (i := 1) sc_L_counts_hold.nd rfl (by first | exact .inl rfl | exact .inr rfl)))
    (db_cons (ds_asg (us := [2]) (de_callB (call_sumX rfl) fn_sum (by rfl) z.sum bt_sum (da_cons (de_look (pv 1)) da_nil)) (dg_name (i := 2) sc_L_counts_hold.nd rfl (by first | exact .inl rfl | exact .inr rfl)))
    (db_cons (ds_par (i := 3) (j := 4) rfl sc_L_counts_hold.nd rfl rfl (by decide) rfl rfl (da_cons (de_callB call_len fn_len (by rfl) z.len bt_len (da_cons (de_top (de_lc (own := [("own", 10)]) rfl sc_L_counts_hold.nd (di_seq (de_look (pv 1))) (by exact blkOk_by (N := N_L_counts_hold) (sc := defScope s_L_counts_hold) (by decide +kernel)) (fun _ _ _ _ _ => (dg_name (i := 10) sc_L_counts_hold.nd rfl (by first | exact .inl rfl | exact .inr rfl))) (fun _ _ _ _ _ => (dts_one (dt_eq hr.rm (de_look (pv 10)) de_int))) (fun _ _ _ _ _ => (de_var (pv 10))))) da_nil)) (da_cons (de_sortedSet rfl (by rfl) z.sorted (by rfl) z.set (de_look (pv 1))) da_nil)) (by rfl))
    (db_cons (ds_if (dt_w (dw_or (dt_ne hr.rm (de_call D_coverage (hr.mono (by decide)) (by rfl) (da_cons (de_var (pv 1)) da_nil)) (de_call D_L_quotient (hr.mono (by decide)) (by rfl) (da_cons (de_sub (de_look (pv 2)) (de_look (pv 3))) (da_cons (de_var (pv 2)) da_nil)))) (dw_or1 (dt_not (dt_tru (de_call D_L_same (hr.mono (by decide)) (by rfl) (da_cons (de_call D_often_seen (hr.mono (by decide)) (by rfl) (da_cons (de_var (pv 1)) da_nil)) (da_cons (de_callT (call_tupB _) fn_tuple (by rfl) z.tuple bt_tuple (da_cons (de_top (de_lc (own := [("own", 10)]) rfl sc_L_counts_hold.nd (di_seq (de_look (pv 4))) (by exact blkOk_by (N := N_L_counts_hold) (sc := defScope s_L_counts_hold) (by decide +kernel)) (fun _ _ _ _ _ => (dg_name (i := 10) sc_L_counts_hold.nd rfl (by first | exact .inl rfl | exact .inr rfl))) (fun _ _ _ _ _ => dts_nil) (fun _ _ _ _ _ => (de_tup (da_cons (de_var (pv 10)) (da_cons (de_count hr.rm.units (de_look (pv 1)) (de_look (pv 10))) da_nil)))))) da_nil)) da_nil))))))))
    (db_one (ds_ret (de_top de_bl))) db_nil)
    (db_cons (ds_asg (us := [5]) (de_call D_chance_alike (hr.mono (by decide)) (by rfl) (da_cons (de_var (pv 1)) da_nil)) (dg_name (i := 5) sc_L_counts_hold.nd rfl (by first | exact .inl rfl | exact .inr rfl)))
    (db_cons (ds_asg (us := [6]) (de_div (de_mul (de_look (pv 2)) (de_sub (de_look (pv 2)) de_int)) de_int) (dg_name (i := 6) sc_L_counts_hold.nd rfl (by first | exact .inl rfl | exact .inr rfl)))
    (db_cons (ds_if (dt_lt (de_look (pv 2)) de_int)
    (db_one (ds_ret (de_top (de_is (de_look (pv 5)) de_non)))) db_nil)
    (db_cons (ds_asg (us := [7]) (de_callB (call_sumX rfl) fn_sum (by rfl) z.sum bt_sum (da_cons (de_top (de_lc (own := [("k", 11)]) rfl sc_L_counts_hold.nd (di_range1 (by rfl) z.range (da_cons (de_callB call_len fn_len (by rfl) z.len bt_len (da_cons (de_look (pv 1)) da_nil)) da_nil)) (by exact blkOk_by (N := N_L_counts_hold) (sc := defScope s_L_counts_hold) (by decide +kernel)) (fun _ _ _ _ _ => (dg_name (i := 11) sc_L_counts_hold.nd rfl (by first | exact .inl rfl | exact .inr rfl))) (fun _ _ _ _ _ => dts_nil) (fun _ _ _ _ _ => (de_mul (de_index (de_look (pv 1)) (de_look (pv 11))) (de_callB (call_sumX rfl) fn_sum (by rfl) z.sum bt_sum (da_cons (de_top (de_slice (de_look (pv 1)) (do_some (de_add (de_look (pv 11)) de_int)) do_none)) da_nil)))))) da_nil)) (dg_name (i := 7) sc_L_counts_hold.nd rfl (by first | exact .inl rfl | exact .inr rfl)))
    (db_cons (ds_if (dt_w (dw_or (dt_ne hr.rm (de_look (pv 5)) (de_call D_L_quotient (hr.mono (by decide)) (by rfl) (da_cons (de_sub (de_look (pv 6)) (de_look (pv 7))) (da_cons (de_var (pv 6)) da_nil)))) (dw_or (dt_ne hr.rm (de_call D_chance_alike (hr.mono (by decide)) (by rfl) (da_cons (de_rev (de_look (pv 1))) da_nil)) (de_look (pv 5))) (dw_or1 (dt_ne hr.rm (de_call D_coverage (hr.mono (by decide)) (by rfl) (da_cons (de_rev (de_look (pv 1))) da_nil)) (de_call D_coverage (hr.mono (by decide)) (by rfl) (da_cons (de_var (pv 1)) da_nil)))))))
    (db_one (ds_ret (de_top de_bl))) db_nil)
    (db_cons (ds_asg (us := [8]) (de_callS D_L_draw (hr.mono (by decide)) (by rfl) (pv 0) (da_cons de_int da_nil)) (dg_name (i := 8) sc_L_counts_hold.nd rfl (by first | exact .inl rfl | exact .inr rfl)))
    (db_cons (ds_if (dt_ne hr.rm (de_call D_judge_counts (hr.mono (by decide)) (by rfl) (da_cons (de_var (pv 8)) (da_cons (de_var (pv 1)) da_nil))) (de_if (dt_eq hr.rm (de_look (pv 8)) (de_look (pv 2))) (de_tup (da_cons de_str da_nil)) (de_tup (da_cons de_str (da_cons (de_sub (de_look (pv 8)) (de_look (pv 2))) da_nil)))))
    (db_one (ds_ret (de_top de_bl))) db_nil)
    (db_cons (ds_asg (us := [9]) (de_add (de_tup (da_cons (de_add (de_index (de_look (pv 1)) de_int) (de_index (de_look (pv 1)) (de_neg de_int))) da_nil)) (de_slice (de_look (pv 1)) (do_some de_int) (do_some (de_neg de_int)))) (dg_name (i := 9) sc_L_counts_hold.nd rfl (by first | exact .inl rfl | exact .inr rfl)))
    (db_one (ds_ret (de_top (de_or (de_lt (de_callB call_len fn_len (by rfl) z.len bt_len (da_cons (de_look (pv 1)) da_nil)) de_int) (de_one (de_notX (de_call D_L_is_less (hr.mono (by decide)) (by rfl) (da_cons (de_call D_chance_alike (hr.mono (by decide)) (by rfl) (da_cons (de_var (pv 9)) da_nil)) (da_cons (de_var (pv 5)) da_nil)))))))))))))))))))))
theorem f_law (z : Zs mg) (F : FunD K "law" "law" (defArgs s_law) (defBody s_law) (defScope s_law) [] [] f fd) (hm : Good 1 m_law) (D_start : DefP P w K mg base 1 "_law_start" (spStart K) []) (D_L_chances_hold : DefP P w K mg base 4 "_law_chances_hold" (spS true 0 G_L_chances_hold) []) (D_L_numbers_hold : DefP P w K mg base 4 "_law_numbers_hold" (spS true 0 G_L_numbers_hold) []) (D_L_counts_hold : DefP P w K mg base 4 "_law_counts_hold" (spS true 0 G_L_counts_hold) []) : FnG P w K mg base 5 f fd ["script"] (spLaw K) :=
  fng_funD F sc_law (fun vs H Q h => by obtain ⟨a, ns, rfl, _⟩ := h; rfl) fun cdv A outer s H vs Q hr hsp => ⟨_, pss_cons (ps_set (i := 1) sc_law.nd rfl (by first | exact .inl rfl | exact .inr rfl) (pe_start D_start (hr.mono (by decide)) (by rfl) (pa_cons (pv 0) pa_nil)))
    (db_cons (ds_for (us := [2]) PassesOwn.never rfl (di_range1 (by rfl) z.range (da_cons de_int da_nil)) (dg_name (i := 2) sc_law.nd rfl (by first | exact .inl rfl | exact .inr rfl))
    (db_one (ds_if (dt_w (dw_or (dt_not (dt_tru (de_callS D_L_chances_hold (hr.mono (by decide)) (by rfl) (pv 1) da_nil))) (dw_or (dt_not (dt_tru (de_callS D_L_numbers_hold (hr.mono (by decide)) (by rfl) (pv 1) da_nil))) (dw_or1 (dt_not (dt_tru (de_callS D_L_counts_hold (hr.mono (by decide)) (by rfl) (pv 1) da_nil)))))))
    (db_one (ds_ret (de_top de_bl))) db_nil)))
    (db_one (ds_ret (de_top de_bl)))), law_law (β := true) rfl hm hsp⟩
theorem f_start (z : Zs mg) (F : FunD K "_law_start" "_law_start" (defArgs s_L_start) (defBody s_L_start) (defScope s_L_start) [] [] f fd) : FnG P w K mg base 1 f fd ["script"] (spStart K) :=
  fng_funD F sc_L_start (fun vs H Q h => by obtain ⟨a, ns, rfl, _⟩ := h; rfl) fun cdv A outer s H vs Q hr hsp => ⟨tStart K, pss_cons (ds_asg (us := [1]) de_int (dg_name (i := 1) sc_L_start.nd rfl (by first | exact .inl rfl | exact .inr rfl)))
    (pss_cons (ps_for PassesOwn.never rfl (pi_list (pe_slice sl_list (pv 0) po_none (po_some pe_int))) (dg_name (us := [2]) (i := 2) sc_L_start.nd rfl (by first | exact .inl rfl | exact .inr rfl))
      (db_one (ds_asg (us := [1]) (de_add (de_mod (de_callT call_int1 fn_int (by rfl) z.int bt_int (da_cons (de_add (de_mul (de_var (pv 1)) de_int) (de_var (pv 2))) da_nil)) de_int) de_int) (dg_name (i := 1) sc_L_start.nd rfl (by first | exact .inl rfl | exact .inr rfl)))))
    (pss_one (ps_ret (pe_lst (pa_cons (pe_lc (own := [("cell", 2)]) rfl sc_L_start.nd (pi_list (pe_slice sl_list (pv 0) po_none (po_some pe_int))) (by exact blkOk_by (N := N_L_start) (sc := defScope s_L_start) (by decide +kernel)) (fun _ _ _ _ _ => (dg_name (i := 2) sc_L_start.nd rfl (by first | exact .inl rfl | exact .inr rfl))) (fun _ _ _ _ _ => dts_nil)
      (fun _ _ _ _ _ => (de_callB call_abs fn_abs (by rfl) z.abs bt_abs (da_cons (de_callT call_int1 fn_int (by rfl) z.int bt_int (da_cons (de_var (pv 2)) da_nil)) da_nil)))) (da_cons de_int (da_cons de_int (da_cons de_int (da_cons (de_var (pv 1)) (da_cons de_int da_nil)))))))))), start_law hsp⟩
end
end K70

set_option Elab.async false
set_option linter.all false
set_option maxRecDepth 100000
set_option maxHeartbeats 4000000
namespace K70
open PySem PySem.Spec PyProof.Rows L2 Mini
def d_L_start : He.DefD := ⟨("_law_start", none), "_law_start", "_law_start", defArgs s_L_start, defBody s_L_start, defScope s_L_start, [], []⟩
def d_is_integer : He.DefD := ⟨("is_integer", none), "is_integer", "is_integer", defArgs s_is_integer, defBody s_is_integer, defScope s_is_integer, [], []⟩
def d_check_dies : He.DefD := ⟨("check_dies", none), "check_dies", "check_dies", defArgs s_check_dies, defBody s_check_dies, defScope s_check_dies, [.str "dies"], []⟩
def d_check_coins : He.DefD := ⟨("check_coins", none), "check_coins", "check_coins", defArgs s_check_coins, defBody s_check_coins, defScope s_check_coins, [], []⟩
def d_ways_table : He.DefD := ⟨("ways_table", none), "ways_table", "ways_table", defArgs s_ways_table, defBody s_ways_table, defScope s_ways_table, [], []⟩
def d_quotient : He.DefD := ⟨("quotient", none), "quotient", "quotient", defArgs s_quotient, defBody s_quotient, defScope s_quotient, [], []⟩
def d_chances_seen : He.DefD := ⟨("chances_seen", none), "chances_seen", "chances_seen", defArgs s_chances_seen, defBody s_chances_seen, defScope s_chances_seen, [], []⟩
def d_L_draw : He.DefD := ⟨("_law_draw", none), "_law_draw", "_law_draw", defArgs s_L_draw, defBody s_L_draw, defScope s_L_draw, [], []⟩
def d_L_same : He.DefD := ⟨("_law_same", none), "_law_same", "_law_same", defArgs s_L_same, defBody s_L_same, defScope s_L_same, [], []⟩
def d_mean_seen : He.DefD := ⟨("mean_seen", none), "mean_seen", "mean_seen", defArgs s_mean_seen, defBody s_mean_seen, defScope s_mean_seen, [], []⟩
def d_L_divisor : He.DefD := ⟨("_law_divisor", none), "_law_divisor", "_law_divisor", defArgs s_L_divisor, defBody s_L_divisor, defScope s_L_divisor, [], []⟩
def d_L_quotient : He.DefD := ⟨("_law_quotient", none), "_law_quotient", "_law_quotient", defArgs s_L_quotient, defBody s_L_quotient, defScope s_L_quotient, [], []⟩
def d_check_seen : He.DefD := ⟨("check_seen", none), "check_seen", "check_seen", defArgs s_check_seen, defBody s_check_seen, defScope s_check_seen, [], []⟩
def d_check_more : He.DefD := ⟨("check_more", none), "check_more", "check_more", defArgs s_check_more, defBody s_check_more, defScope s_check_more, [], []⟩
def d_chance_new : He.DefD := ⟨("chance_new", none), "chance_new", "chance_new", defArgs s_chance_new, defBody s_chance_new, defScope s_chance_new, [], []⟩
def d_L_added : He.DefD := ⟨("_law_added", none), "_law_added", "_law_added", defArgs s_L_added, defBody s_L_added, defScope s_L_added, [], []⟩
def d_L_chances_hold : He.DefD := ⟨("_law_chances_hold", none), "_law_chances_hold", "_law_chances_hold", defArgs s_L_chances_hold, defBody s_L_chances_hold, defScope s_L_chances_hold, [], []⟩
def d_likeliest_dies : He.DefD := ⟨("likeliest_dies", none), "likeliest_dies", "likeliest_dies", defArgs s_likeliest_dies, defBody s_likeliest_dies, defScope s_likeliest_dies, [], []⟩
def d_check_part : He.DefD := ⟨("check_part", none), "check_part", "check_part", defArgs s_check_part, defBody s_check_part, defScope s_check_part, [], []⟩
def d_dies_bounds : He.DefD := ⟨("dies_bounds", none), "dies_bounds", "dies_bounds", defArgs s_dies_bounds, defBody s_dies_bounds, defScope s_dies_bounds, [], []⟩
def d_least_for : He.DefD := ⟨("least_for", none), "least_for", "least_for", defArgs s_least_for, defBody s_least_for, defScope s_least_for, [], []⟩
def d_L_is_less : He.DefD := ⟨("_law_is_less", none), "_law_is_less", "_law_is_less", defArgs s_L_is_less, defBody s_L_is_less, defScope s_L_is_less, [], []⟩
def d_L_numbers_hold : He.DefD := ⟨("_law_numbers_hold", none), "_law_numbers_hold", "_law_numbers_hold", defArgs s_L_numbers_hold, defBody s_L_numbers_hold, defScope s_L_numbers_hold, [], []⟩
def d_check_counts : He.DefD := ⟨("check_counts", none), "check_counts", "check_counts", defArgs s_check_counts, defBody s_check_counts, defScope s_check_counts, [], []⟩
def d_chance_alike : He.DefD := ⟨("chance_alike", none), "chance_alike", "chance_alike", defArgs s_chance_alike, defBody s_chance_alike, defScope s_chance_alike, [], []⟩
def d_judge_counts : He.DefD := ⟨("judge_counts", none), "judge_counts", "judge_counts", defArgs s_judge_counts, defBody s_judge_counts, defScope s_judge_counts, [], []⟩
def d_coverage : He.DefD := ⟨("coverage", none), "coverage", "coverage", defArgs s_coverage, defBody s_coverage, defScope s_coverage, [], []⟩
def d_often_seen : He.DefD := ⟨("often_seen", none), "often_seen", "often_seen", defArgs s_often_seen, defBody s_often_seen, defScope s_often_seen, [], []⟩
def d_L_pick_size : He.DefD := ⟨("_law_pick_size", none), "_law_pick_size", "_law_pick_size", defArgs s_L_pick_size, defBody s_L_pick_size, defScope s_L_pick_size, [], []⟩
def d_L_counts_hold : He.DefD := ⟨("_law_counts_hold", none), "_law_counts_hold", "_law_counts_hold", defArgs s_L_counts_hold, defBody s_L_counts_hold, defScope s_L_counts_hold, [], []⟩
def d_law : He.DefD := ⟨("law", none), "law", "law", defArgs s_law, defBody s_law, defScope s_law, [], []⟩
def fn_0 : List He.DefD := [d_L_start, d_is_integer, d_check_dies, d_check_coins, d_ways_table, d_quotient, d_chances_seen, d_L_draw, d_L_same, d_mean_seen, d_L_divisor, d_L_quotient, d_check_seen, d_check_more, d_chance_new, d_L_added, d_L_chances_hold, d_likeliest_dies, d_check_part, d_dies_bounds, d_least_for, d_L_is_less, d_L_numbers_hold, d_check_counts, d_chance_alike, d_judge_counts, d_coverage, d_often_seen, d_L_pick_size, d_L_counts_hold]
def fn_1 : List He.DefD := [d_law]
def fn : List He.DefD := fn_0 ++ fn_1
def fa_0 : List He.Fa := [.glo "_law_start", .glo "is_integer", .glo "check_dies", .glo "check_coins", .glo "ways_table", .glo "quotient", .glo "chances_seen", .glo "_law_draw", .glo "_law_same", .glo "mean_seen", .glo "_law_divisor", .glo "_law_quotient", .glo "check_seen", .glo "check_more", .glo "chance_new", .glo "_law_added", .glo "_law_chances_hold", .glo "likeliest_dies", .glo "check_part", .glo "dies_bounds", .glo "least_for", .glo "_law_is_less", .glo "_law_numbers_hold", .glo "check_counts", .glo "chance_alike", .glo "judge_counts", .glo "coverage", .glo "often_seen", .glo "_law_pick_size", .glo "_law_counts_hold"]
def fa_1 : List He.Fa := [.glo "law", .free "abs", .free "all", .free "bool", .free "enumerate", .free "int", .free "isinstance", .free "len", .free "list", .free "max", .free "min", .free "range", .free "repr", .free "set", .free "sorted", .free "sum", .free "tuple", .int "MAX_COINS" 60, .int "MAX_DIES" 40]
def fa : List He.Fa := fa_0 ++ fa_1
def loose_0 : List PySem.Str := ["CabinetError", "ArgumentError", "is_integer", "MAX_COINS", "MAX_DIES", "check_dies", "check_coins", "check_seen", "quotient", "ways_table", "chances_seen", "mean_seen", "likeliest_dies", "dies_bounds", "check_part", "check_counts", "coverage", "often_seen", "least_for", "chance_alike", "chance_new", "check_more", "judge_counts", "_law_start", "_law_draw", "_law_same", "_law_divisor", "_law_quotient", "_law_added", "_law_is_less"]
def loose_1 : List PySem.Str := ["_law_chances_hold", "_law_numbers_hold", "_law_counts_hold", "_law_pick_size"]
def loose : List PySem.Str := loose_0 ++ loose_1
abbrev R : PySem.W.OpenRow := PySem.W.OpenLaw.row PySem.Challenge.rw_hoardsread_k70_whole_chances_of_dies_ste
abbrev hk : PySem.W.Hook := He.hookD 4 fa fn
def ob (s : PySem.W.SharedT) : He.AlD := He.obsDG 4 fa fn (HandSHeadRun.getT s)
theorem ob_eq (s : PySem.W.SharedT) : ob s = hk.obs s.abs := He.obsDG_eq (HandSHeadRun.getT_eq s)
theorem run (w : World) : HandSHeadRun.RunEq R (PySem.W.view R.prog [38]) hk ob 3000 loose w := by
  intro os
  kernel_rfl
theorem facts {P : Program} {w : World} {K : PySem.W.Frag} {h : Heap} {mg : Str → Option Value} {f : Addr} (X : K.In h) (G : h.Ns mainGlobals mg) (hfa : mg ("law" : Str) = some (.ref f)) (c : He.SaysD fa fn K) (hm : Good 1 m_law) :
    ∃ fd : FuncData, (∀ (s : Shared) (v : Value), BindsTo s fd ⟨[v], []⟩ [("script", v)]) ∧ ∀ base : Heap, K.In base → base.Ns mainGlobals mg → FnG P w K mg base 5 f fd ["script"] (spLaw K) := by
  obtain ⟨fd_L_start, F_L_start⟩ := c.def_ 0 (d := d_L_start) rfl
  obtain ⟨fd_is_integer, F_is_integer⟩ := c.def_ 1 (d := d_is_integer) rfl
  obtain ⟨fd_check_dies, F_check_dies⟩ := c.def_ 2 (d := d_check_dies) rfl
  obtain ⟨fd_check_coins, F_check_coins⟩ := c.def_ 3 (d := d_check_coins) rfl
  obtain ⟨fd_ways_table, F_ways_table⟩ := c.def_ 4 (d := d_ways_table) rfl
  obtain ⟨fd_quotient, F_quotient⟩ := c.def_ 5 (d := d_quotient) rfl
  obtain ⟨fd_chances_seen, F_chances_seen⟩ := c.def_ 6 (d := d_chances_seen) rfl
  obtain ⟨fd_L_draw, F_L_draw⟩ := c.def_ 7 (d := d_L_draw) rfl
  obtain ⟨fd_L_same, F_L_same⟩ := c.def_ 8 (d := d_L_same) rfl
  obtain ⟨fd_mean_seen, F_mean_seen⟩ := c.def_ 9 (d := d_mean_seen) rfl
  obtain ⟨fd_L_divisor, F_L_divisor⟩ := c.def_ 10 (d := d_L_divisor) rfl
  obtain ⟨fd_L_quotient, F_L_quotient⟩ := c.def_ 11 (d := d_L_quotient) rfl
  obtain ⟨fd_check_seen, F_check_seen⟩ := c.def_ 12 (d := d_check_seen) rfl
  obtain ⟨fd_check_more, F_check_more⟩ := c.def_ 13 (d := d_check_more) rfl
  obtain ⟨fd_chance_new, F_chance_new⟩ := c.def_ 14 (d := d_chance_new) rfl
  obtain ⟨fd_L_added, F_L_added⟩ := c.def_ 15 (d := d_L_added) rfl
  obtain ⟨fd_L_chances_hold, F_L_chances_hold⟩ := c.def_ 16 (d := d_L_chances_hold) rfl
  obtain ⟨fd_likeliest_dies, F_likeliest_dies⟩ := c.def_ 17 (d := d_likeliest_dies) rfl
  obtain ⟨fd_check_part, F_check_part⟩ := c.def_ 18 (d := d_check_part) rfl
  obtain ⟨fd_dies_bounds, F_dies_bounds⟩ := c.def_ 19 (d := d_dies_bounds) rfl
  obtain ⟨fd_least_for, F_least_for⟩ := c.def_ 20 (d := d_least_for) rfl
  obtain ⟨fd_L_is_less, F_L_is_less⟩ := c.def_ 21 (d := d_L_is_less) rfl
  obtain ⟨fd_L_numbers_hold, F_L_numbers_hold⟩ := c.def_ 22 (d := d_L_numbers_hold) rfl
  obtain ⟨fd_check_counts, F_check_counts⟩ := c.def_ 23 (d := d_check_counts) rfl
  obtain ⟨fd_chance_alike, F_chance_alike⟩ := c.def_ 24 (d := d_chance_alike) rfl
  obtain ⟨fd_judge_counts, F_judge_counts⟩ := c.def_ 25 (d := d_judge_counts) rfl
  obtain ⟨fd_coverage, F_coverage⟩ := c.def_ 26 (d := d_coverage) rfl
  obtain ⟨fd_often_seen, F_often_seen⟩ := c.def_ 27 (d := d_often_seen) rfl
  obtain ⟨fd_L_pick_size, F_L_pick_size⟩ := c.def_ 28 (d := d_L_pick_size) rfl
  obtain ⟨fd_L_counts_hold, F_L_counts_hold⟩ := c.def_ 29 (d := d_L_counts_hold) rfl
  obtain ⟨fd_law, F_law⟩ := c.def_ 30 (d := d_law) rfl
  have e := hfa.symm.trans (He.glo_ok X G (c.fact 30 (f := .glo "law") rfl))
  cases e
  have b := FunD.bindsA (ps := ["script"]) F_law fun _ _ _ _ _ _ us hl => match us, hl with | [_], _ => rfl
  have z : Zs mg := ⟨He.free_ok X G (c.fact 31 (f := .free "abs") rfl), He.free_ok X G (c.fact 32 (f := .free "all") rfl), He.free_ok X G (c.fact 33 (f := .free "bool") rfl), He.free_ok X G (c.fact 34 (f := .free "enumerate") rfl), He.free_ok X G (c.fact 35 (f := .free "int") rfl), He.free_ok X G (c.fact 36 (f := .free "isinstance") rfl), He.free_ok X G (c.fact 37 (f := .free "len") rfl), He.free_ok X G (c.fact 38 (f := .free "list") rfl), He.free_ok X G (c.fact 39 (f := .free "max") rfl), He.free_ok X G (c.fact 40 (f := .free "min") rfl), He.free_ok X G (c.fact 41 (f := .free "range") rfl), He.free_ok X G (c.fact 42 (f := .free "repr") rfl), He.free_ok X G (c.fact 43 (f := .free "set") rfl), He.free_ok X G (c.fact 44 (f := .free "sorted") rfl), He.free_ok X G (c.fact 45 (f := .free "sum") rfl), He.free_ok X G (c.fact 46 (f := .free "tuple") rfl), He.int_ok X G (c.fact 47 (f := .int "MAX_COINS" 60) rfl), He.int_ok X G (c.fact 48 (f := .int "MAX_DIES" 40) rfl)⟩
  refine ⟨fd_law, fun s v => b s [v] rfl, fun base _ _ => ?_⟩
  have D_start : DefP P w K mg base 1 "_law_start" (spStart K) [] := ⟨_, _, _, _, f_start z F_L_start, He.glo_ok X G (c.fact 0 (f := .glo "_law_start") rfl), F_L_start.kp, FunD.bindsN (ps := ["script"]) F_L_start fun _ _ _ _ _ _ us hl => match us, hl with | [_], _ => rfl, .nil⟩
  have D_is_integer : DefP P w K mg base 1 "is_integer" (spM true 1 G_is_integer) [] := ⟨_, _, _, _, (f_is_integer z F_is_integer ), He.glo_ok X G (c.fact 1 (f := .glo "is_integer") rfl), F_is_integer.kp, FunD.bindsN (ps := ["value"]) F_is_integer fun _ _ _ _ _ _ us hl => match us, hl with | [_], _ => rfl, .nil⟩
  have D_check_dies_1 : DefP P w K mg base 2 "check_dies" (spM true 2 G_check_dies) [V.str "dies"] := by
    obtain ⟨ds, hv, hb⟩ := FunD.binds1 (ps := ["dies", "reason"]) F_check_dies 1 0 (by exact List.cons_ne_nil _ _) rfl fun _ _ _ _ _ _ _ us its hl hi => match us, its, hl, hi with | [_], [_], _, _ => ⟨_, rfl, rfl⟩
    exact ⟨_, _, _, _, (f_check_dies z F_check_dies D_is_integer), He.glo_ok X G (c.fact 2 (f := .glo "check_dies") rfl), F_check_dies.kp, hb, hv⟩
  have D_check_dies : DefP P w K mg base 2 "check_dies" (spM true 2 G_check_dies) [] := by
    obtain ⟨ds, hv, hb⟩ := FunD.binds1 (ps := ["dies", "reason"]) F_check_dies 2 1 (by exact List.cons_ne_nil _ _) rfl fun _ _ _ _ _ _ _ us its hl hi => match us, its, hl, hi with | [_, _], [_], _, _ => ⟨_, rfl, rfl⟩
    exact ⟨_, _, _, _, (f_check_dies z F_check_dies D_is_integer), He.glo_ok X G (c.fact 2 (f := .glo "check_dies") rfl), F_check_dies.kp, hb, hv⟩
  have D_check_coins : DefP P w K mg base 2 "check_coins" (spM true 1 G_check_coins) [] := ⟨_, _, _, _, (f_check_coins z F_check_coins D_is_integer), He.glo_ok X G (c.fact 3 (f := .glo "check_coins") rfl), F_check_coins.kp, FunD.bindsN (ps := ["coins"]) F_check_coins fun _ _ _ _ _ _ us hl => match us, hl with | [_], _ => rfl, .nil⟩
  have D_ways_table : DefP P w K mg base 1 "ways_table" (spM true 2 G_ways_table) [] := ⟨_, _, _, _, (f_ways_table z F_ways_table ), He.glo_ok X G (c.fact 4 (f := .glo "ways_table") rfl), F_ways_table.kp, FunD.bindsN (ps := ["dies", "coins"]) F_ways_table fun _ _ _ _ _ _ us hl => match us, hl with | [_, _], _ => rfl, .nil⟩
  have D_quotient : DefP P w K mg base 1 "quotient" (spM true 2 G_quotient) [] := ⟨_, _, _, _, (f_quotient z F_quotient ), He.glo_ok X G (c.fact 5 (f := .glo "quotient") rfl), F_quotient.kp, FunD.bindsN (ps := ["up", "down"]) F_quotient fun _ _ _ _ _ _ us hl => match us, hl with | [_, _], _ => rfl, .nil⟩
  have D_chances_seen : DefP P w K mg base 3 "chances_seen" (spM true 2 G_chances_seen) [] := ⟨_, _, _, _, (f_chances_seen z F_chances_seen D_check_dies_1 D_check_coins D_ways_table D_quotient), He.glo_ok X G (c.fact 6 (f := .glo "chances_seen") rfl), F_chances_seen.kp, FunD.bindsN (ps := ["dies", "coins"]) F_chances_seen fun _ _ _ _ _ _ us hl => match us, hl with | [_, _], _ => rfl, .nil⟩
  have D_L_draw : DefP P w K mg base 1 "_law_draw" (spS true 1 G_L_draw) [] := ⟨_, _, _, _, (f_L_draw z F_L_draw ), He.glo_ok X G (c.fact 7 (f := .glo "_law_draw") rfl), F_L_draw.kp, FunD.bindsN (ps := ["state", "many"]) F_L_draw fun _ _ _ _ _ _ us hl => match us, hl with | [_, _], _ => rfl, .nil⟩
  have D_L_same : DefP P w K mg base 1 "_law_same" (spM true 2 G_L_same) [] := ⟨_, _, _, _, (f_L_same z F_L_same ), He.glo_ok X G (c.fact 8 (f := .glo "_law_same") rfl), F_L_same.kp, FunD.bindsN (ps := ["actual", "due"]) F_L_same fun _ _ _ _ _ _ us hl => match us, hl with | [_, _], _ => rfl, .nil⟩
  have D_mean_seen : DefP P w K mg base 3 "mean_seen" (spM true 2 G_mean_seen) [] := ⟨_, _, _, _, (f_mean_seen z F_mean_seen D_check_dies_1 D_check_coins D_ways_table D_quotient), He.glo_ok X G (c.fact 9 (f := .glo "mean_seen") rfl), F_mean_seen.kp, FunD.bindsN (ps := ["dies", "coins"]) F_mean_seen fun _ _ _ _ _ _ us hl => match us, hl with | [_, _], _ => rfl, .nil⟩
  have D_L_divisor : DefP P w K mg base 1 "_law_divisor" (spM true 2 G_L_divisor) [] := ⟨_, _, _, _, (f_L_divisor z F_L_divisor ), He.glo_ok X G (c.fact 10 (f := .glo "_law_divisor") rfl), F_L_divisor.kp, FunD.bindsN (ps := ["one", "other"]) F_L_divisor fun _ _ _ _ _ _ us hl => match us, hl with | [_, _], _ => rfl, .nil⟩
  have D_L_quotient : DefP P w K mg base 2 "_law_quotient" (spM true 2 G_L_quotient) [] := ⟨_, _, _, _, (f_L_quotient z F_L_quotient D_L_divisor), He.glo_ok X G (c.fact 11 (f := .glo "_law_quotient") rfl), F_L_quotient.kp, FunD.bindsN (ps := ["up", "down"]) F_L_quotient fun _ _ _ _ _ _ us hl => match us, hl with | [_, _], _ => rfl, .nil⟩
  have D_check_seen : DefP P w K mg base 2 "check_seen" (spM true 1 G_check_seen) [] := ⟨_, _, _, _, (f_check_seen z F_check_seen D_is_integer), He.glo_ok X G (c.fact 12 (f := .glo "check_seen") rfl), F_check_seen.kp, FunD.bindsN (ps := ["seen"]) F_check_seen fun _ _ _ _ _ _ us hl => match us, hl with | [_], _ => rfl, .nil⟩
  have D_check_more : DefP P w K mg base 2 "check_more" (spM true 3 G_check_more) [] := ⟨_, _, _, _, (f_check_more z F_check_more D_is_integer), He.glo_ok X G (c.fact 13 (f := .glo "check_more") rfl), F_check_more.kp, FunD.bindsN (ps := ["dies", "seen", "more"]) F_check_more fun _ _ _ _ _ _ us hl => match us, hl with | [_, _, _], _ => rfl, .nil⟩
  have D_chance_new : DefP P w K mg base 3 "chance_new" (spM true 3 G_chance_new) [] := ⟨_, _, _, _, (f_chance_new z F_chance_new D_check_dies_1 D_check_seen D_check_more D_quotient), He.glo_ok X G (c.fact 14 (f := .glo "chance_new") rfl), F_chance_new.kp, FunD.bindsN (ps := ["dies", "seen", "more"]) F_chance_new fun _ _ _ _ _ _ us hl => match us, hl with | [_, _, _], _ => rfl, .nil⟩
  have D_L_added : DefP P w K mg base 3 "_law_added" (spM true 1 G_L_added) [] := ⟨_, _, _, _, (f_L_added z F_L_added D_L_quotient), He.glo_ok X G (c.fact 15 (f := .glo "_law_added") rfl), F_L_added.kp, FunD.bindsN (ps := ["rows"]) F_L_added fun _ _ _ _ _ _ us hl => match us, hl with | [_], _ => rfl, .nil⟩
  have D_L_chances_hold : DefP P w K mg base 4 "_law_chances_hold" (spS true 0 G_L_chances_hold) [] := ⟨_, _, _, _, (f_L_chances_hold z F_L_chances_hold D_chances_seen D_L_draw D_L_same D_mean_seen D_L_quotient D_chance_new D_L_added), He.glo_ok X G (c.fact 16 (f := .glo "_law_chances_hold") rfl), F_L_chances_hold.kp, FunD.bindsN (ps := ["state"]) F_L_chances_hold fun _ _ _ _ _ _ us hl => match us, hl with | [_], _ => rfl, .nil⟩
  have D_likeliest_dies : DefP P w K mg base 3 "likeliest_dies" (spM true 3 G_likeliest_dies) [] := ⟨_, _, _, _, (f_likeliest_dies z F_likeliest_dies D_check_coins D_check_seen D_check_dies D_ways_table), He.glo_ok X G (c.fact 17 (f := .glo "likeliest_dies") rfl), F_likeliest_dies.kp, FunD.bindsN (ps := ["coins", "seen", "most"]) F_likeliest_dies fun _ _ _ _ _ _ us hl => match us, hl with | [_, _, _], _ => rfl, .nil⟩
  have D_check_part : DefP P w K mg base 2 "check_part" (spM true 1 G_check_part) [] := ⟨_, _, _, _, (f_check_part z F_check_part D_quotient D_is_integer), He.glo_ok X G (c.fact 18 (f := .glo "check_part") rfl), F_check_part.kp, FunD.bindsN (ps := ["part"]) F_check_part fun _ _ _ _ _ _ us hl => match us, hl with | [_], _ => rfl, .nil⟩
  have D_dies_bounds : DefP P w K mg base 3 "dies_bounds" (spM true 4 G_dies_bounds) [] := ⟨_, _, _, _, (f_dies_bounds z F_dies_bounds D_check_coins D_check_seen D_check_part D_check_dies D_ways_table), He.glo_ok X G (c.fact 19 (f := .glo "dies_bounds") rfl), F_dies_bounds.kp, FunD.bindsN (ps := ["coins", "seen", "part", "most"]) F_dies_bounds fun _ _ _ _ _ _ us hl => match us, hl with | [_, _, _, _], _ => rfl, .nil⟩
  have D_least_for : DefP P w K mg base 3 "least_for" (spM true 2 G_least_for) [] := ⟨_, _, _, _, (f_least_for z F_least_for D_check_dies_1 D_ways_table D_is_integer), He.glo_ok X G (c.fact 20 (f := .glo "least_for") rfl), F_least_for.kp, FunD.bindsN (ps := ["dies", "wanted"]) F_least_for fun _ _ _ _ _ _ us hl => match us, hl with | [_, _], _ => rfl, .nil⟩
  have D_L_is_less : DefP P w K mg base 1 "_law_is_less" (spM true 2 G_L_is_less) [] := ⟨_, _, _, _, (f_L_is_less z F_L_is_less ), He.glo_ok X G (c.fact 21 (f := .glo "_law_is_less") rfl), F_L_is_less.kp, FunD.bindsN (ps := ["one", "other"]) F_L_is_less fun _ _ _ _ _ _ us hl => match us, hl with | [_, _], _ => rfl, .nil⟩
  have D_L_numbers_hold : DefP P w K mg base 4 "_law_numbers_hold" (spS true 0 G_L_numbers_hold) [] := ⟨_, _, _, _, (f_L_numbers_hold z F_L_numbers_hold D_L_quotient D_L_draw D_chances_seen D_likeliest_dies D_dies_bounds D_least_for D_L_is_less D_mean_seen D_L_added), He.glo_ok X G (c.fact 22 (f := .glo "_law_numbers_hold") rfl), F_L_numbers_hold.kp, FunD.bindsN (ps := ["state"]) F_L_numbers_hold fun _ _ _ _ _ _ us hl => match us, hl with | [_], _ => rfl, .nil⟩
  have D_check_counts : DefP P w K mg base 2 "check_counts" (spM true 1 G_check_counts) [] := ⟨_, _, _, _, (f_check_counts z F_check_counts D_is_integer), He.glo_ok X G (c.fact 23 (f := .glo "check_counts") rfl), F_check_counts.kp, FunD.bindsN (ps := ["counts"]) F_check_counts fun _ _ _ _ _ _ us hl => match us, hl with | [_], _ => rfl, .nil⟩
  have D_chance_alike : DefP P w K mg base 3 "chance_alike" (spM true 1 G_chance_alike) [] := ⟨_, _, _, _, (f_chance_alike z F_chance_alike D_check_counts D_quotient), He.glo_ok X G (c.fact 24 (f := .glo "chance_alike") rfl), F_chance_alike.kp, FunD.bindsN (ps := ["counts"]) F_chance_alike fun _ _ _ _ _ _ us hl => match us, hl with | [_], _ => rfl, .nil⟩
  have D_judge_counts : DefP P w K mg base 3 "judge_counts" (spM true 2 G_judge_counts) [] := ⟨_, _, _, _, (f_judge_counts z F_judge_counts D_check_coins D_check_counts), He.glo_ok X G (c.fact 25 (f := .glo "judge_counts") rfl), F_judge_counts.kp, FunD.bindsN (ps := ["coins", "counts"]) F_judge_counts fun _ _ _ _ _ _ us hl => match us, hl with | [_, _], _ => rfl, .nil⟩
  have D_coverage : DefP P w K mg base 3 "coverage" (spM true 1 G_coverage) [] := ⟨_, _, _, _, (f_coverage z F_coverage D_check_counts D_quotient), He.glo_ok X G (c.fact 26 (f := .glo "coverage") rfl), F_coverage.kp, FunD.bindsN (ps := ["counts"]) F_coverage fun _ _ _ _ _ _ us hl => match us, hl with | [_], _ => rfl, .nil⟩
  have D_often_seen : DefP P w K mg base 3 "often_seen" (spM true 1 G_often_seen) [] := ⟨_, _, _, _, (f_often_seen z F_often_seen D_check_counts), He.glo_ok X G (c.fact 27 (f := .glo "often_seen") rfl), F_often_seen.kp, FunD.bindsN (ps := ["counts"]) F_often_seen fun _ _ _ _ _ _ us hl => match us, hl with | [_], _ => rfl, .nil⟩
  have D_L_pick_size : DefP P w K mg base 2 "_law_pick_size" (spS true 0 G_L_pick_size) [] := ⟨_, _, _, _, (f_L_pick_size z F_L_pick_size D_L_draw), He.glo_ok X G (c.fact 28 (f := .glo "_law_pick_size") rfl), F_L_pick_size.kp, FunD.bindsN (ps := ["state"]) F_L_pick_size fun _ _ _ _ _ _ us hl => match us, hl with | [_], _ => rfl, .nil⟩
  have D_L_counts_hold : DefP P w K mg base 4 "_law_counts_hold" (spS true 0 G_L_counts_hold) [] := ⟨_, _, _, _, (f_L_counts_hold z F_L_counts_hold D_chance_alike D_L_draw D_judge_counts D_coverage D_L_quotient D_L_same D_L_is_less D_often_seen D_L_pick_size), He.glo_ok X G (c.fact 29 (f := .glo "_law_counts_hold") rfl), F_L_counts_hold.kp, FunD.bindsN (ps := ["state"]) F_L_counts_hold fun _ _ _ _ _ _ us hl => match us, hl with | [_], _ => rfl, .nil⟩
  exact f_law z F_law hm D_start D_L_chances_hold D_L_numbers_hold D_L_counts_hold
end K70
open PySem PySem.W PySem.Calls PyProof.Rows
theorem K70.final (hm : Mini.Good 1 K70.m_law) : PySem.Challenge.rw_hoardsread_k70_whole_chances_of_dies_ste.Holds := by
  w_on; o_law
  refine HandSHeadRun.head_any (r := K70.R) (q := view K70.R.prog [38]) (H := K70.hk) (ob := K70.ob) (M := 3000) (loose := K70.loose) (d := HandSHeadRun.topDef K70.R.prog 38) (kwd := []) K70.ob_eq
    (by kernel_rfl) (fun s => by kernel_rfl) K70.run (by kernel_rfl) (by kernel_rfl) (by kernel_rfl) (by rfl) (by first | assumption | decide +kernel) (by decide +kernel) ⟨rfl, rfl, rfl, rfl, rfl, by decide +kernel⟩ ?hw ?hc
  case hw => w_witness2
  case hc =>
    refine Mini.walk_GE (l := PySem.Challenge.rw_hoardsread_k70_whole_chances_of_dies_ste) (n := 63) (k := 5) (x := "script") rfl (by decide) (by kernel_rfl) (Mini.room_caller ⟨rfl, by decide, by decide⟩) ?F
    intro w mg fa h Y G hmg0
    obtain ⟨K, KX, c⟩ := Y
    have hmg : mg ("law" : PySem.Str) = some (.ref fa) := by
      have e : (HandSHeadRun.topDef K70.R.prog 38).name = ("law" : PySem.Str) := by kernel_rfl
      rw [← e]
      exact hmg0
    obtain ⟨fd, hb, hF⟩ := K70.facts (P := (PySem.Challenge.rw_hoardsread_k70_whole_chances_of_dies_ste).prog) (w := w) KX G hmg c hm
    exact ⟨K, fd, Mini.spLaw K, KX, hb, fun H a ns _ hbits _ hS => Mini.spLaw_ok hbits hS, hF⟩

theorem PySem.Challenge.cw_hoardsread_k70_whole_chances_of_dies_ste_holds : PySem.Challenge.rw_hoardsread_k70_whole_chances_of_dies_ste.Holds :=
  K70.final K70.law_good
