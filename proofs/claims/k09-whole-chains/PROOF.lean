import PyProof.Rows.All
import Wide.All
import OpenK.AllK
import Wide.FinOn
import HandS.ForMost
import HandS.ForExc
import HandS.Deep
import HandS.Style
import HandS.TupAny
import HandS.Conv
import HandS.IsInst
import HandS.SetFor
import KE.KTupSum
import KE.SortData
import KE.DataCmp
import HandS.ExcIs
import HandS.TryOnly
import HandS.ExcValue
import HandS.Text
import HandS.Iter
import HandS.Dict
import PySem.Challenge.RW_groupsapart_k09_whole_chains
set_option Elab.async false
set_option linter.all false
set_option maxRecDepth 100000
set_option maxHeartbeats 2000000
/-! The data layer: what a heap says of plain data; mirrors' results. -/
namespace DL
open PySem PySem.Spec PyProof.Rows L2
/-- where the errors' classes stand -/
class Ec where
  ec : Str → Addr
variable [Ec]
/-- an exception object of the class at C, caught and kept -/
def ExN (C a : Addr) : HO := .ext fun h => ∃ (oe : Obj) (vs : Array Value), h.get? a = some oe ∧ oe.cls = .ref C ∧ oe.dict = none ∧ oe.data = .fields vs

abbrev D := PyData
/-- a shared object, by its number -/
def hnd (i : Nat) : D := .dict [(.int (i : Int), .none)]
/-- a caught exception, by its class's name -/
def exD (c : Str) : D := .dict [(.str c, .none)]

mutual
inductive Rp (g : List Addr) (F : Hp) : V → D → Prop
  | non : Rp g F .non .none
  | bl (b : Bool) : Rp g F (.bl b) (.bool b)
  | int (i : Int) : Rp g F (.int i) (.int i)
  | str (x : Str) : Rp g F (.str x) (.str x)
  | lst {a : Addr} {xs : List V} {ds : List D} : F a = some (.lst xs) → RpL g F xs ds → Rp g F (.ref a) (.list ds)
  | tup {a : Addr} {xs : List V} {ds : List D} : F a = some (.tup xs) → RpL g F xs ds → Rp g F (.ref a) (.tuple ds)
  | hn {i : Nat} {a : Addr} : g[i]? = some a → Rp g F (.ref a) (hnd i)
  | exc {c : Str} {a : Addr} : F a = some (ExN (Ec.ec c) a) → Rp g F (.ref a) (exD c)
inductive RpL (g : List Addr) (F : Hp) : List V → List D → Prop
  | nil : RpL g F [] []
  | cons {v : V} {vs : List V} {d : D} {ds : List D} : Rp g F v d → RpL g F vs ds → RpL g F (v :: vs) (d :: ds)
end

section
variable {g g' : List Addr} {F F' : Hp}
theorem pre_get {l l' : List Addr} (h : l <+: l') {i : Nat} {a : Addr} (e : l[i]? = some a) : l'[i]? = some a := by
  obtain ⟨t, rfl⟩ := h
  obtain ⟨hi, _⟩ := List.getElem?_eq_some_iff.mp e
  rw [List.getElem?_append_left hi]
  exact e
mutual
theorem Rp.mono (hg : g <+: g') (hF : ∀ a o, F a = some o → F' a = some o) : ∀ {v : V} {d : D}, Rp g F v d → Rp g' F' v d
  | _, _, .non => .non
  | _, _, .bl b => .bl b
  | _, _, .int i => .int i
  | _, _, .str x => .str x
  | _, _, .lst h hs => .lst (hF _ _ h) (RpL.mono hg hF hs)
  | _, _, .tup h hs => .tup (hF _ _ h) (RpL.mono hg hF hs)
  | _, _, .hn h => .hn (pre_get hg h)
  | _, _, .exc h => .exc (hF _ _ h)
theorem RpL.mono (hg : g <+: g') (hF : ∀ a o, F a = some o → F' a = some o) : ∀ {vs : List V} {ds : List D}, RpL g F vs ds → RpL g' F' vs ds
  | _, _, .nil => .nil
  | _, _, .cons h hs => .cons (Rp.mono hg hF h) (RpL.mono hg hF hs)
end
theorem RpL.length : ∀ {vs : List V} {ds : List D}, RpL g F vs ds → vs.length = ds.length
  | _, _, .nil => rfl
  | _, _, .cons _ hs => by rw [List.length_cons, List.length_cons, RpL.length hs]
theorem RpL.get : ∀ {vs : List V} {ds : List D} {i : Nat} {d : D}, RpL g F vs ds → ds[i]? = some d → ∃ v, vs[i]? = some v ∧ Rp g F v d
  | _, _, _, _, .nil, e => by simp at e
  | _, _, 0, _, .cons h _, e => by simp at e; subst e; exact ⟨_, rfl, h⟩
  | _, _, i + 1, d, .cons _ hs, e => by
    obtain ⟨v, h1, h2⟩ := RpL.get (i := i) (d := d) hs (by simpa using e)
    exact ⟨v, by simpa using h1, h2⟩
theorem RpL.getV : ∀ {vs : List V} {ds : List D} {i : Nat} {v : V}, RpL g F vs ds → vs[i]? = some v → ∃ d, ds[i]? = some d ∧ Rp g F v d
  | _, _, _, _, .nil, e => by simp at e
  | _, _, 0, _, .cons h _, e => by simp at e; subst e; exact ⟨_, rfl, h⟩
  | _, _, i + 1, d, .cons _ hs, e => by
    obtain ⟨v, h1, h2⟩ := RpL.getV (i := i) (v := d) hs (by simpa using e)
    exact ⟨v, by simpa using h1, h2⟩
theorem RpL.append : ∀ {vs ws : List V} {ds es : List D}, RpL g F vs ds → RpL g F ws es → RpL g F (vs ++ ws) (ds ++ es)
  | _, _, _, _, .nil, s => s
  | _, _, _, _, .cons h t, s => .cons h (RpL.append t s)
theorem RpL.take : ∀ {vs : List V} {ds : List D} (n : Nat), RpL g F vs ds → RpL g F (vs.take n) (ds.take n)
  | _, _, 0, _ => .nil
  | _, _, _ + 1, .nil => .nil
  | _, _, n + 1, .cons h t => .cons h (RpL.take n t)
theorem RpL.drop : ∀ {vs : List V} {ds : List D} (n : Nat), RpL g F vs ds → RpL g F (vs.drop n) (ds.drop n)
  | _, _, 0, r => r
  | _, _, _ + 1, .nil => .nil
  | _, _, n + 1, .cons _ t => RpL.drop n t
theorem RpL.set {v : V} {d : D} (h : Rp g F v d) : ∀ {vs : List V} {ds : List D} (i : Nat), RpL g F vs ds → RpL g F (vs.set i v) (ds.set i d)
  | _, _, _, .nil => .nil
  | _, _, 0, .cons _ t => .cons h t
  | _, _, i + 1, .cons q t => .cons q (RpL.set h i t)
theorem RpL.reverse {vs : List V} {ds : List D} (h : RpL g F vs ds) : RpL g F vs.reverse ds.reverse := by
  induction h using RpL.rec (motive_1 := fun _ _ _ => True) with
  | nil => exact .nil
  | cons h hs _ ih =>
    rw [List.reverse_cons, List.reverse_cons]
    exact ih.append (.cons h .nil)
  | _ => trivial
/-- plain ints -/
def dInts (ns : List Int) : List D := ns.map .int
theorem RpL.ints : ∀ {vs : List V} {ns : List Int}, RpL g F vs (dInts ns) → vs = ns.map V.int
  | vs, [], h => by cases h; rfl
  | vs, n :: ns, h => by
    cases h with
    | cons h1 h2 =>
      cases h1
      rw [RpL.ints h2]
      rfl
theorem RpL.of_ints : ∀ (ns : List Int), RpL g F (ns.map V.int) (dInts ns)
  | [] => .nil
  | n :: ns => .cons (.int n) (RpL.of_ints ns)
def dBls (bs : List Bool) : List D := bs.map .bool
theorem RpL.bls : ∀ {vs : List V} {ns : List Bool}, RpL g F vs (dBls ns) → vs = ns.map V.bl
  | vs, [], h => by cases h; rfl
  | vs, n :: ns, h => by
    cases h with
    | cons h1 h2 =>
      cases h1
      rw [RpL.bls h2]
      rfl
def dStrs (bs : List Str) : List D := bs.map .str
theorem RpL.strs : ∀ {vs : List V} {ns : List Str}, RpL g F vs (dStrs ns) → vs = ns.map V.str
  | vs, [], h => by cases h; rfl
  | vs, n :: ns, h => by
    cases h with
    | cons h1 h2 =>
      cases h1
      rw [RpL.strs h2]
      rfl
theorem RpL.of_strs : ∀ (ns : List Str), RpL g F (ns.map V.str) (dStrs ns)
  | [] => .nil
  | n :: ns => .cons (.str n) (RpL.of_strs ns)
/-! ### as the library's own data (for == and in) -/
mutual
theorem Rp.dp {K : PySem.W.Frag} {H : Hp} (hF : ∀ a o, F a = some o → H a = some o) : ∀ {v : V} {d : D}, d.canLay0 = true → Rp g F v d → Dp K H v d
  | _, _, _, .non => .non
  | _, _, _, .bl b => .bl b
  | _, _, _, .int i => .int i
  | _, _, _, .str x => .str x
  | _, _, c, .lst h hs => .lst (SqL.of (hF _ _ h)) (RpL.dp hF (by simpa [PyData.canLay0] using c) hs)
  | _, _, c, .tup h hs => .tup (SqT.of (hF _ _ h)) (RpL.dp hF (by simpa [PyData.canLay0] using c) hs)
  | _, _, c, .hn h => by simp [hnd, PyData.canLay0] at c
  | _, _, c, .exc h => by simp [exD, PyData.canLay0] at c
theorem RpL.dp {K : PySem.W.Frag} {H : Hp} (hF : ∀ a o, F a = some o → H a = some o) : ∀ {vs : List V} {ds : List D}, PyData.canLayAll0 ds = true → RpL g F vs ds → DpAll K H vs ds
  | _, _, _, .nil => .nil
  | _, _, c, .cons h hs => by
    rw [PyData.canLayAll0, Bool.and_eq_true] at c
    exact .cons (Rp.dp hF c.1 h) (RpL.dp hF c.2 hs)
end
end

/-! ### the shared objects -/
inductive Cell where
  | lst (xs : List D)
  | ins (fs : List (Str × D))
/-- addresses that the text's top has laid: the one class of the program's own whose objects are shared; the errors' classes -/
structure Kn where
  sc : Addr
def Kn.ec (κ : Kn) : Str → Addr := Ec.ec
def CellOk (κ : Kn) (g : List Addr) (F H : Hp) (a : Addr) : Cell → Prop
  | .lst ds => ∃ vs, H a = some (.lst vs) ∧ RpL g F vs ds
  | .ins fs => ∃ dx vs, H a = some (.ins κ.sc dx vs) ∧ Paired (fun (p : Str × V) (q : Str × D) => p.1 = q.1 ∧ Rp g F p.2 q.2) vs fs

abbrev W' := List Cell
structure Wk (κ : Kn) (g : List Addr) (F : Hp) (w : W') (H : Hp) : Prop where
  FH : ∀ a o, F a = some o → H a = some o
  gnd : g.Nodup
  gF : ∀ a ∈ g, F a = none
  gl : g.length = w.length
  cells : ∀ (i : Nat) c, w[i]? = some c → ∃ a, g[i]? = some a ∧ CellOk κ g F H a c

/-- what a step may change: the shared objects; what it may add -/
structure Ext (g : List Addr) (F H : Hp) (g' : List Addr) (F' H' : Hp) : Prop where
  gg : g <+: g'
  FF : ∀ a o, F a = some o → F' a = some o
  keep : ∀ a o, H a = some o → a ∉ g → H' a = some o
  there : ∀ a, H' a = none → H a = none
  newF : ∀ a, H a ≠ none → F' a ≠ none → F a ≠ none
  newg : ∀ a ∈ g', a ∈ g ∨ H a = none
theorem Ext.refl (g : List Addr) (F H : Hp) : Ext g F H g F H := ⟨List.prefix_rfl, fun _ _ h => h, fun _ _ h _ => h, fun _ h => h, fun _ _ h => h, fun _ h => .inl h⟩
theorem Ext.trans {g F H g1 F1 H1 g2 F2 H2} (a : Ext g F H g1 F1 H1) (b : Ext g1 F1 H1 g2 F2 H2) : Ext g F H g2 F2 H2 where
  gg := a.gg.trans b.gg
  FF := fun x o h => b.FF x o (a.FF x o h)
  keep := fun x o h n => b.keep x o (a.keep x o h n) fun z => by
    rcases a.newg x z with z | z
    · exact n z
    · rw [h] at z; cases z
  there := fun x h => a.there x (b.there x h)
  newF := fun x h f => a.newF x h (b.newF x (fun z => h (a.there x z)) f)
  newg := fun x h => by
    rcases b.newg x h with z | z
    · exact a.newg x z
    · exact .inr (a.there x z)
/-- a new frozen object -/
theorem Ext.new {g F H} {p : Addr} {o : HO} (h : H p = none) (hF : F p = none) : Ext g F H g (upd F p o) (upd H p o) where
  gg := List.prefix_rfl
  FF := fun x u e => by rw [upd_ne (ne_of_none e hF)]; exact e
  keep := fun x u e _ => by rw [upd_ne (ne_of_none e h)]; exact e
  there := fun x e => by
    by_cases q : x = p
    · subst q; exact h
    · rw [upd_ne q] at e; exact e
  newF := fun x e f => by
    by_cases q : x = p
    · subst q; exact absurd h e
    · rw [upd_ne q] at f; exact f
  newg := fun x h => .inl h
/-- a new object that isn't frozen -/
theorem Ext.hid {g F H} {p : Addr} {o : HO} (h : H p = none) : Ext g F H g F (upd H p o) where
  gg := List.prefix_rfl
  FF := fun x u e => e
  keep := fun x u e _ => by rw [upd_ne (ne_of_none e h)]; exact e
  there := fun x e => by
    by_cases q : x = p
    · subst q; exact h
    · rw [upd_ne q] at e; exact e
  newF := fun x e f => f
  newg := fun x h => .inl h
/-- an object that was not there at the start is written -/
theorem Ext.poke {g F H g' F' H'} {p : Addr} {o : HO} (e : Ext g F H g' F' H') (h : H p = none) : Ext g F H g' F' (upd H' p o) where
  gg := e.gg
  FF := e.FF
  keep := fun x u z n => by rw [upd_ne (ne_of_none z h)]; exact e.keep x u z n
  there := fun x z => by
    by_cases q : x = p
    · subst q; exact h
    · rw [upd_ne q] at z; exact e.there x z
  newF := e.newF
  newg := e.newg
/-- .. frozen from now on -/
theorem Ext.seal {g F H g' F' H'} {p : Addr} {o : HO} (e : Ext g F H g' F' H') (h : H p = none) (hF : F' p = none) : Ext g F H g' (upd F' p o) H' where
  gg := e.gg
  FF := fun x u z => by
    have z' := e.FF x u z
    rw [upd_ne (ne_of_none z' hF)]; exact z'
  keep := e.keep
  there := e.there
  newF := fun x z f => by
    by_cases q : x = p
    · subst q; exact absurd h z
    · rw [upd_ne q] at f; exact e.newF x z f
  newg := e.newg

section
variable {κ : Kn} {g g' : List Addr} {F F' H H' : Hp} {w w' : W'}
theorem CellOk.mono {a : Addr} {c : Cell} (h : CellOk κ g F H a c) (hg : g <+: g') (hF : ∀ a o, F a = some o → F' a = some o) (hH : ∀ o, H a = some o → H' a = some o) : CellOk κ g' F' H' a c := by
  cases c with
  | lst ds =>
    obtain ⟨vs, h1, h2⟩ := h
    exact ⟨vs, hH _ h1, h2.mono hg hF⟩
  | ins fs =>
    obtain ⟨dx, vs, h1, h2⟩ := h
    exact ⟨dx, vs, hH _ h1, Paired.mapP h2 fun p q z => ⟨z.1, z.2.mono hg hF⟩⟩
theorem CellOk.some {a : Addr} {c : Cell} (h : CellOk κ g F H a c) : ∃ o, H a = some o := by
  cases c with
  | lst ds => obtain ⟨vs, h1, _⟩ := h; exact ⟨_, h1⟩
  | ins fs => obtain ⟨dx, vs, h1, _⟩ := h; exact ⟨_, h1⟩
theorem Wk.at (k : Wk κ g F w H) {a : Addr} (ha : a ∈ g) : ∃ o, H a = some o := by
  obtain ⟨i, hi, e⟩ := List.getElem_of_mem ha
  have hw : i < w.length := by rw [← k.gl]; exact hi
  obtain ⟨b, hb, ok⟩ := k.cells i w[i] (List.getElem?_eq_getElem hw)
  rw [List.getElem?_eq_getElem hi] at hb
  cases hb
  rw [← e]
  exact ok.some
theorem Wk.fresh (k : Wk κ g F w H) {p : Addr} (h : H p = none) : p ∉ g ∧ F p = none := by
  refine ⟨fun z => ?_, ?_⟩
  · obtain ⟨o, e⟩ := k.at z
    rw [h] at e; cases e
  · cases q : F p with
    | none => rfl
    | some o => rw [k.FH p o q] at h; cases h
theorem Wk.new (k : Wk κ g F w H) {p : Addr} {o : HO} (h : H p = none) : Wk κ g (upd F p o) w (upd H p o) where
  FH := fun a u e => by
    by_cases q : a = p
    · subst q; rw [upd_same] at e ⊢; exact e
    · rw [upd_ne q] at e ⊢; exact k.FH a u e
  gnd := k.gnd
  gF := fun a ha => by
    have : a ≠ p := fun z => (k.fresh h).1 (z ▸ ha)
    rw [upd_ne this]; exact k.gF a ha
  gl := k.gl
  cells := fun i c e => by
    obtain ⟨a, h1, h2⟩ := k.cells i c e
    have hF := (k.fresh h).2
    refine ⟨a, h1, h2.mono List.prefix_rfl (fun b u z => by rw [upd_ne (ne_of_none z hF)]; exact z) (fun u z => by rw [upd_ne (ne_of_none z h)]; exact z)⟩
theorem Wk.hid (k : Wk κ g F w H) {p : Addr} {o : HO} (h : p ∉ g) (hF : F p = none) : Wk κ g F w (upd H p o) where
  FH := fun a u e => by rw [upd_ne (ne_of_none e hF)]; exact k.FH a u e
  gnd := k.gnd
  gF := k.gF
  gl := k.gl
  cells := fun i c e => by
    obtain ⟨a, h1, h2⟩ := k.cells i c e
    have : a ≠ p := fun z => h (z ▸ List.mem_of_getElem? h1)
    exact ⟨a, h1, h2.mono List.prefix_rfl (fun b u z => z) (fun u z => by rw [upd_ne this]; exact z)⟩
theorem Wk.seal (k : Wk κ g F w H) {p : Addr} {o : HO} (h : p ∉ g) (hF : F p = none) (e : H p = some o) : Wk κ g (upd F p o) w H where
  FH := fun a u z => by
    by_cases q : a = p
    · subst q; rw [upd_same] at z; rw [← z]; exact e
    · rw [upd_ne q] at z; exact k.FH a u z
  gnd := k.gnd
  gF := fun a ha => by
    have : a ≠ p := fun z => h (z ▸ ha)
    rw [upd_ne this]; exact k.gF a ha
  gl := k.gl
  cells := fun i c z => by
    obtain ⟨a, h1, h2⟩ := k.cells i c z
    exact ⟨a, h1, h2.mono List.prefix_rfl (fun b u y => by rw [upd_ne (ne_of_none y hF)]; exact y) (fun u y => y)⟩
end

/-! ### the names of a def -/
inductive Slot where
  | un
  | d (x : D)
  | own (xs : List D)
  /-- one's own dict of ints -/
  | dc (kvs : List (Int × Int))
/-- a list or a dict of one's own -/
def Slot.mine : Slot → Bool
  | .own _ => true
  | .dc _ => true
  | _ => false
/-- an int to an int, as the heap's table has it -/
def dcT (kvs : List (Int × Int)) : List (Key × V) := kvs.map fun p => (.inl p.1, .int p.2)
def SlotOk (g : List Addr) (F H : Hp) (l : Addr) (s : Slot) (v : Option (Option V)) : Prop :=
  match s with
  | .un => True
  | .d x => ∃ u, v = some (some u) ∧ Rp g F u x
  | .own xs => v = some (some (.ref l)) ∧ F l = none ∧ l ∉ g ∧ ∃ vs, H l = some (.lst vs) ∧ RpL g F vs xs
  | .dc kvs => v = some (some (.ref l)) ∧ F l = none ∧ l ∉ g ∧ H l = some (.dK (dcT kvs))
structure Lr (κ : Kn) (g : List Addr) (F : Hp) (own : Nat → Addr) (ρ : List Slot) (w : W') (σ : L2.St) (H : Hp) : Prop where
  wk : Wk κ g F w H
  len : ρ.length = σ.length
  slots : ∀ (i : Nat) s, ρ[i]? = some s → SlotOk g F H (own i) s σ[i]?
  owns : ∀ (i j : Nat) s t, ρ[i]? = some s → ρ[j]? = some t → s.mine = true → t.mine = true → own i = own j → i = j

/-- what a mirror hands back -/
inductive Res (α : Type) where
  | ok (a : α) (w : W')
  | err (c : Str) (w : W')
  | bad
abbrev M (α : Type) := W' → Res α
def M.pure {α : Type} (a : α) : M α := fun w => .ok a w
def M.bind {α β : Type} (m : M α) (f : α → M β) : M β := fun w => match m w with
  | .ok a w' => f a w'
  | .err c w' => .err c w'
  | .bad => .bad
def M.bad {α : Type} : M α := fun _ => .bad
def M.err {α : Type} (c : Str) : M α := fun w => .err c w
instance : Monad M where
  pure := M.pure
  bind := M.bind
/-- an expression's mirror, a test's -/
abbrev X (α : Type) := List Slot → M α

section
variable {κ : Kn} {g g' : List Addr} {F F' H H' : Hp} {w w' : W'} {own : Nat → Addr} {ρ : List Slot} {σ : L2.St}
theorem SlotOk.ext {l : Addr} {s : Slot} {v : Option (Option V)} (h : SlotOk g F H l s v) (e : Ext g F H g' F' H') : SlotOk g' F' H' l s v := by
  cases s with
  | un => trivial
  | d x =>
    obtain ⟨u, h1, h2⟩ := h
    exact ⟨u, h1, h2.mono e.gg e.FF⟩
  | own xs =>
    obtain ⟨h1, h2, h3, vs, h4, h5⟩ := h
    refine ⟨h1, ?_, ?_, vs, e.keep _ _ h4 h3, h5.mono e.gg e.FF⟩
    · cases q : F' l with
      | none => rfl
      | some o => exact absurd h2 (e.newF l (by rw [h4]; exact fun z => nomatch z) (by rw [q]; exact fun z => nomatch z))
    · intro z
      rcases e.newg l z with y | y
      · exact h3 y
      · rw [h4] at y; cases y
  | dc kvs =>
    obtain ⟨h1, h2, h3, h4⟩ := h
    refine ⟨h1, ?_, ?_, e.keep _ _ h4 h3⟩
    · cases q : F' l with
      | none => rfl
      | some o => exact absurd h2 (e.newF l (by rw [h4]; exact fun z => nomatch z) (by rw [q]; exact fun z => nomatch z))
    · intro z
      rcases e.newg l z with y | y
      · exact h3 y
      · rw [h4] at y; cases y
theorem Lr.ext (r : Lr κ g F own ρ w σ H) (e : Ext g F H g' F' H') (k : Wk κ g' F' w' H') : Lr κ g' F' own ρ w' σ H' :=
  ⟨k, r.len, fun i s h => (r.slots i s h).ext e, r.owns⟩
/-- what is wanted behind an expression, by its mirror's word -/
def Po {α : Type} (κ : Kn) (W : WX) (g : List Addr) (F H : Hp) (σ : L2.St) (r : Res α) (K : α → List Addr → Hp → W' → Hp → Prop) : Prop :=
  match r with
  | .ok a w' => ∀ g' F' H', Ext g F H g' F' H' → Wk κ g' F' w' H' → K a g' F' w' H'
  | .err c w' => ∀ g' F' H', Ext g F H g' F' H' → Wk κ g' F' w' H' → W (.ref (κ.ec c)) none σ H'
  | .bad => False
end
end DL

/-! The data layer, 2: judgements of expressions by mirrors. -/
namespace DL
open PySem PySem.Spec PyProof.Rows L2
variable [Ec]

section
variable {κ : Kn} {W : WX} {g g' : List Addr} {F F' H H' : Hp} {w w' : W'} {own : Nat → Addr} {ρ : List Slot} {σ : L2.St} {α β : Type}
theorem Po.mono {r : Res α} {K K' : α → List Addr → Hp → W' → Hp → Prop} (h : Po κ W g F H σ r K) (m : ∀ a g' F' w' H', Ext g F H g' F' H' → Wk κ g' F' w' H' → K a g' F' w' H' → K' a g' F' w' H') : Po κ W g F H σ r K' := by
  cases r with
  | ok a w' => exact fun g' F' H' e k => m a g' F' w' H' e k (h g' F' H' e k)
  | err c w' => exact h
  | bad => exact h
/-- one step, then the rest -/
theorem po_bind {m : M α} {f : α → M β} {K : β → List Addr → Hp → W' → Hp → Prop} (h : Po κ W g F H σ (M.bind m f w) K) :
    Po κ W g F H σ (m w) (fun a g1 F1 w1 H1 => Ext g F H g1 F1 H1 → Po κ W g1 F1 H1 σ (f a w1) K) := by
  unfold M.bind at h
  cases e : m w with
  | ok a w1 =>
    rw [e] at h
    intro g1 F1 H1 x k x'
    dsimp only at h
    revert h
    cases f a w1 with
    | ok b w2 => exact fun h g2 F2 H2 y k2 => h g2 F2 H2 (x.trans y) k2
    | err c w2 => exact fun h g2 F2 H2 y k2 => h g2 F2 H2 (x.trans y) k2
    | bad => exact fun h => h
  | err c w1 =>
    rw [e] at h
    exact h
  | bad =>
    rw [e] at h
    exact h
theorem po_ok {a : α} {K : α → List Addr → Hp → W' → Hp → Prop} (h : Po κ W g F H σ (.ok a w) K) (k : Wk κ g F w H) : K a g F w H := h g F H (Ext.refl g F H) k
end

/-! ### how a value stands for data -/
abbrev RelE := List Addr → Hp → Hp → Hp → V → D → Prop
/-- frozen data -/
def RD : RelE := fun g F _ _ v d => Rp g F v d
/-- frozen data, or a list of one's own whose items are frozen -/
def RV : RelE := fun g F _ H v d => Rp g F v d ∨ ∃ a vs ds, v = .ref a ∧ d = .list ds ∧ a ∉ g ∧ H a = some (.lst vs) ∧ RpL g F vs ds
/-- a list that has just been made -/
def RN : RelE := fun g F H0 H v d => ∃ a vs ds, v = .ref a ∧ d = .list ds ∧ H0 a = none ∧ F a = none ∧ a ∉ g ∧ H a = some (.lst vs) ∧ RpL g F vs ds
class Stable (R : RelE) : Prop where
  ext : ∀ {g F H0 H v d g' F' H'}, R g F H0 H v d → Ext g F H g' F' H' → R g' F' H0 H' v d
  back : ∀ {g F H0 H1 H v d}, R g F H1 H v d → (∀ a, H1 a = none → H0 a = none) → R g F H0 H v d
instance : Stable RD := ⟨fun h e => Rp.mono e.gg e.FF h, fun h _ => h⟩
instance : Stable RV where
  ext := fun h e => by
    rcases h with h | ⟨a, vs, ds, h1, h2, h3, h4, h5⟩
    · exact .inl (h.mono e.gg e.FF)
    · refine .inr ⟨a, vs, ds, h1, h2, fun z => ?_, e.keep _ _ h4 h3, h5.mono e.gg e.FF⟩
      rcases e.newg a z with y | y
      · exact h3 y
      · rw [h4] at y; cases y
  back := fun h _ => h
instance : Stable RN where
  ext := fun {g F H0 H v d g' F' H'} h e => by
    obtain ⟨a, vs, ds, h1, h2, h0, hF, h3, h4, h5⟩ := h
    refine ⟨a, vs, ds, h1, h2, h0, ?_, fun z => ?_, e.keep _ _ h4 h3, h5.mono e.gg e.FF⟩
    · cases q : F' a with
      | none => rfl
      | some o => exact absurd hF (e.newF a (by rw [h4]; exact fun z => nomatch z) (by rw [q]; exact fun z => nomatch z))
    · rcases e.newg a z with y | y
      · exact h3 y
      · rw [h4] at y; cases y
  back := fun h b => by
    obtain ⟨a, vs, ds, h1, h2, h0, r⟩ := h
    exact ⟨a, vs, ds, h1, h2, b a h0, r⟩
theorem RN.rv {g F H0 H v d} (h : RN g F H0 H v d) : RV g F H0 H v d := by
  obtain ⟨a, vs, ds, h1, h2, _, _, h3, h4, h5⟩ := h
  exact .inr ⟨a, vs, ds, h1, h2, h3, h4, h5⟩
/-- a list to be read -/
theorem RV.list {κ : Kn} {g F H0 H v w} {ds : List D} (h : RV g F H0 H v (.list ds)) (k : Wk κ g F w H) : ∃ a vs, v = .ref a ∧ H a = some (.lst vs) ∧ RpL g F vs ds := by
  rcases h with h | ⟨a, vs, es, h1, h2, h3, h4, h5⟩
  · cases h with
    | lst h1 h2 => exact ⟨_, _, rfl, k.FH _ _ h1, h2⟩
  · cases h2
    exact ⟨a, vs, h1, h4, h5⟩
theorem RV.tup {κ : Kn} {g F H0 H v w} {ds : List D} (h : RV g F H0 H v (.tuple ds)) (k : Wk κ g F w H) : ∃ a vs, v = .ref a ∧ F a = some (.tup vs) ∧ H a = some (.tup vs) ∧ RpL g F vs ds := by
  rcases h with h | ⟨a, vs, es, h1, h2, h3, h4, h5⟩
  · cases h with
    | tup h1 h2 => exact ⟨_, _, rfl, h1, k.FH _ _ h1, h2⟩
  · cases h2
theorem RV.int {g F H0 H v} {i : Int} (h : RV g F H0 H v (.int i)) : v = .int i := by
  rcases h with h | ⟨a, vs, es, h1, h2, h3, h4, h5⟩
  · cases h; rfl
  · cases h2
theorem RV.bl {g F H0 H v} {i : Bool} (h : RV g F H0 H v (.bool i)) : v = .bl i := by
  rcases h with h | ⟨a, vs, es, h1, h2, h3, h4, h5⟩
  · cases h; rfl
  · cases h2
theorem RV.str {g F H0 H v} {i : Str} (h : RV g F H0 H v (.str i)) : v = .str i := by
  rcases h with h | ⟨a, vs, es, h1, h2, h3, h4, h5⟩
  · cases h; rfl
  · cases h2
theorem RV.non {g F H0 H v} (h : RV g F H0 H v .none) : v = .non := by
  rcases h with h | ⟨a, vs, es, h1, h2, h3, h4, h5⟩
  · cases h; rfl
  · cases h2
theorem RV.dp {K : PySem.W.Frag} {κ : Kn} {g F H0 H v w d} (h : RV g F H0 H v d) (k : Wk κ g F w H) (c : d.canLay0 = true) : Dp K H v d := by
  rcases h with h | ⟨a, vs, ds, h1, h2, h3, h4, h5⟩
  · exact h.dp k.FH c
  · subst h1 h2
    exact .lst (SqL.of h4) (h5.dp k.FH (by simpa [PyData.canLay0] using c))

/-! ### the judgements -/
abbrev KE (α : Type) := α → List Addr → Hp → W' → Hp → Prop
def tE (κ : Kn) (W : WX) (R : RelE) (f : X D) : TE := fun σ H Q => ∃ g F own ρ w, Lr κ g F own ρ w σ H ∧ Po κ W g F H σ (f ρ w) fun d g' F' _ H' => ∀ v, R g' F' H H' v d → Q v H'
def tTt (κ : Kn) (W : WX) (f : X Bool) : TT := fun σ H Q => ∃ g F own ρ w, Lr κ g F own ρ w σ H ∧ Po κ W g F H σ (f ρ w) fun b _ _ _ H' => Q b H'
/-- arguments: each by its own way -/
inductive RpR (g : List Addr) (F H0 H : Hp) : List RelE → List V → List D → Prop
  | nil : RpR g F H0 H [] [] []
  | cons {R Rs v d vs ds} : R g F H0 H v d → RpR g F H0 H Rs vs ds → RpR g F H0 H (R :: Rs) (v :: vs) (d :: ds)
def tAr (κ : Kn) (W : WX) (Rs : List RelE) (f : X (List D)) : TA := fun σ H Q => ∃ g F own ρ w, Lr κ g F own ρ w σ H ∧ Po κ W g F H σ (f ρ w) fun ds g' F' _ H' => ∀ vs, RpR g' F' H H' Rs vs ds → Q vs H'
abbrev DE (κ : Kn) (W : WX) (X : Cx) (R : RelE) (e : Expr) (f : DL.X D) : Prop := PE X e (tE κ W R f)
abbrev DT (κ : Kn) (W : WX) (X : Cx) (e : Expr) (f : DL.X Bool) : Prop := PT X e (tTt κ W f)
abbrev DWw (κ : Kn) (W : WX) (X : Cx) (e : Expr) (f : DL.X Bool) : Prop := PW X e (tTt κ W f)
abbrev DA (κ : Kn) (W : WX) (X : Cx) (Rs : List RelE) (es : List Expr) (f : DL.X (List D)) : Prop := PA X es (tAr κ W Rs f)

theorem PE.weak {X : Cx} {e : Expr} {t t' : TE} (h : PE X e t) (i : ∀ σ H Q, t' σ H Q → t σ H Q) : PE X e t' := ⟨fun pins s σ H Q I q => h.run pins s σ H Q I (i σ H Q q)⟩
theorem PT.weak {X : Cx} {e : Expr} {t t' : TT} (h : PT X e t) (i : ∀ σ H Q, t' σ H Q → t σ H Q) : PT X e t' := ⟨fun pins s σ H Q I q => h.run pins s σ H Q I (i σ H Q q)⟩
theorem PW.weak {X : Cx} {e : Expr} {t t' : TT} (h : PW X e t) (i : ∀ σ H Q, t' σ H Q → t σ H Q) : PW X e t' := ⟨fun wh pins s σ H Q I q => h.run wh pins s σ H Q I (i σ H Q q)⟩
theorem PA.weak {X : Cx} {e : List Expr} {t t' : TA} (h : PA X e t) (i : ∀ σ H Q, t' σ H Q → t σ H Q) : PA X e t' := ⟨fun pos pins s σ H Q I q => h.run pos pins s σ H Q I (i σ H Q q)⟩

section
variable {κ : Kn} {W : WX} {X : Cx} {R Ra Rb : RelE} {e a b c : Expr} {f fa fb : DL.X D} {pos : Pos}
theorem DE.rv (h : DE κ W X RD e f) : DE κ W X RV e f := PE.weak h fun σ H Q ⟨g, F, own, ρ, w, r, p⟩ => ⟨g, F, own, ρ, w, r, p.mono fun d g' F' w' H' _ _ q v hv => q v (.inl hv)⟩
theorem DE.nv (h : DE κ W X RN e f) : DE κ W X RV e f := PE.weak h fun σ H Q ⟨g, F, own, ρ, w, r, p⟩ => ⟨g, F, own, ρ, w, r, p.mono fun d g' F' w' H' _ _ q v hv => q v hv.rv⟩
/-- a list just made is frozen -/
theorem DE.nd (h : DE κ W X RN e f) : DE κ W X RD e f := PE.weak h fun σ H Q ⟨g, F, own, ρ, w, r, p⟩ => by
  refine ⟨g, F, own, ρ, w, r, ?_⟩
  revert p
  cases f ρ w with
  | ok d w' =>
    intro p g' F' H' e k v hv
    obtain ⟨a, vs, ds, rfl, rfl, h0, hF, hg, hH, hr⟩ := hv
    exact p g' (upd F' a (.lst vs)) H' (e.seal h0 hF) (k.seal hg hF hH) _ (.lst upd_same (hr.mono List.prefix_rfl fun b o z => by rw [upd_ne (ne_of_none z hF)]; exact z))
  | err c w' => exact fun p => p
  | bad => exact fun p => p

/-! ### names, constants -/
def xVar (i : Nat) : DL.X D := fun ρ => match ρ[i]? with
  | some (.d x) => M.pure x
  | _ => M.bad
def xPeek (i : Nat) : DL.X D := fun ρ => match ρ[i]? with
  | some (.d x) => M.pure x
  | some (.own xs) => M.pure (.list xs)
  | _ => M.bad
def xC (d : D) : DL.X D := fun _ => M.pure d
theorem de_var {i : Nat} {x : Str} (h : PE X (.Name x pos) (tVar i)) : DE κ W X RD (.Name x pos) (xVar i) := PE.weak h fun σ H Q ⟨g, F, own, ρ, w, r, p⟩ => by
  unfold xVar at p
  cases e : ρ[i]? with
  | none => rw [e] at p; exact p.elim
  | some s =>
    rw [e] at p
    cases s with
    | un => exact p.elim
    | own xs => exact p.elim
    | dc kvs => exact p.elim
    | d x =>
      obtain ⟨u, h1, h2⟩ := r.slots i _ e
      exact ⟨u, h1, (po_ok p r.wk) u h2⟩
theorem de_peek {i : Nat} {x : Str} (h : PE X (.Name x pos) (tVar i)) : DE κ W X RV (.Name x pos) (xPeek i) := PE.weak h fun σ H Q ⟨g, F, own, ρ, w, r, p⟩ => by
  unfold xPeek at p
  cases e : ρ[i]? with
  | none => rw [e] at p; exact p.elim
  | some s =>
    rw [e] at p
    cases s with
    | un => exact p.elim
    | dc kvs => exact p.elim
    | own xs =>
      obtain ⟨h1, h2, h3, vs, h4, h5⟩ := r.slots i _ e
      exact ⟨_, h1, (po_ok p r.wk) _ (.inr ⟨_, vs, xs, rfl, rfl, h3, h4, h5⟩)⟩
    | d x =>
      obtain ⟨u, h1, h2⟩ := r.slots i _ e
      exact ⟨u, h1, (po_ok p r.wk) u (.inl h2)⟩
theorem de_int {i : Int} {j : Nat} : DE κ W X RD (.Constant (.int i) j pos) (xC (.int i)) := PE.weak pe_int fun σ H Q ⟨g, F, own, ρ, w, r, p⟩ => (po_ok p r.wk) _ (.int i)
theorem de_bl {b : Bool} {j : Nat} : DE κ W X RD (.Constant (.bool b) j pos) (xC (.bool b)) := PE.weak pe_bl fun σ H Q ⟨g, F, own, ρ, w, r, p⟩ => (po_ok p r.wk) _ (.bl b)
theorem de_non {j : Nat} : DE κ W X RD (.Constant .none j pos) (xC .none) := PE.weak pe_non fun σ H Q ⟨g, F, own, ρ, w, r, p⟩ => (po_ok p r.wk) _ .non
theorem de_str {x : Str} {j : Nat} : DE κ W X RD (.Constant (.str x) j pos) (xC (.str x)) := PE.weak pe_str fun σ H Q ⟨g, F, own, ρ, w, r, p⟩ => (po_ok p r.wk) _ (.str x)
/-- a module's constant -/
theorem de_globI {x : Str} {i : Int} {t : Tok} (hm : X.mg x = some (.int i t)) (hg : Gl X x) (hd : (x == ("__debug__" : Str)) = false := by decide) : DE κ W X RD (.Name x pos) (xC (.int i)) :=
  PE.weak (pe_glob (v := .int i) hg hm ⟨t, rfl⟩ hd) fun σ H Q ⟨g, F, own, ρ, w, r, p⟩ => (po_ok p r.wk) _ (.int i)
theorem de_globS {x : Str} {z : Str} {t : Tok} (hm : X.mg x = some (.str z t)) (hg : Gl X x) (hd : (x == ("__debug__" : Str)) = false := by decide) : DE κ W X RD (.Name x pos) (xC (.str z)) :=
  PE.weak (pe_glob (v := .str z) hg hm ⟨t, rfl⟩ hd) fun σ H Q ⟨g, F, own, ρ, w, r, p⟩ => (po_ok p r.wk) _ (.str z)

/-! ### one and two operands -/
def x1 (k : D → M D) (fa : DL.X D) : DL.X D := fun ρ => M.bind (fa ρ) k
def x2 (k : D → D → M D) (fa fb : DL.X D) : DL.X D := fun ρ => M.bind (fa ρ) fun x => M.bind (fb ρ) fun y => k x y
/-- what an operation on values must give for its mirror k -/
def Op2 (κ : Kn) (W : WX) (K : PySem.W.Frag) (Ra Rb R : RelE) (r : R2) (k : D → D → M D) : Prop :=
  ∀ (g : List Addr) (F : Hp) (w : W') (H0 H1 H : Hp) (σ : L2.St) (x y : V) (dx dy : D) (Q : VK), Wk κ g F w H → Ra g F H0 H x dx → Rb g F H1 H y dy →
    Po κ W g F H σ (k dx dy w) (fun d g' F' _ H' => ∀ v, R g' F' H H' v d → Q v H') → r x y H Q
def Op1 (κ : Kn) (W : WX) (K : PySem.W.Frag) (Ra R : RelE) (r : V → Hp → VK → Prop) (k : D → M D) : Prop :=
  ∀ (g : List Addr) (F : Hp) (w : W') (H0 H : Hp) (σ : L2.St) (x : V) (dx : D) (Q : VK), Wk κ g F w H → Ra g F H0 H x dx →
    Po κ W g F H σ (k dx w) (fun d g' F' _ H' => ∀ v, R g' F' H H' v d → Q v H') → r x H Q
theorem t2 [Stable R] [Stable Ra] {r : R2} {k : D → D → M D} (hk : Op2 κ W X.K Ra Rb R r k) {σ : L2.St} {H : Hp} {Q : VK} (h : tE κ W R (x2 k fa fb) σ H Q) : tOp r (tE κ W Ra fa) (tE κ W Rb fb) σ H Q := by
  obtain ⟨g, F, own, ρ, w, lr, p⟩ := h
  refine ⟨g, F, own, ρ, w, lr, (po_bind p).mono fun dx g1 F1 w1 H1 e1 k1 p1 x hx => ?_⟩
  refine ⟨g1, F1, own, ρ, w1, lr.ext e1 k1, (po_bind (p1 e1)).mono fun dy g2 F2 w2 H2 e2 k2 p2 y hy => ?_⟩
  exact hk g2 F2 w2 H H1 H2 σ x y dx dy Q k2 (Stable.ext hx e2) hy ((p2 e2).mono fun d g3 F3 w3 H3 e3 k3 q v hv => q v (Stable.back hv fun a z => e1.there a (e2.there a z)))
theorem t1 [Stable R] {r : V → Hp → VK → Prop} {k : D → M D} (hk : Op1 κ W X.K Ra R r k) {σ : L2.St} {H : Hp} {Q : VK} (h : tE κ W R (x1 k fa) σ H Q) : tUn r (tE κ W Ra fa) σ H Q := by
  obtain ⟨g, F, own, ρ, w, lr, p⟩ := h
  refine ⟨g, F, own, ρ, w, lr, (po_bind p).mono fun dx g1 F1 w1 H1 e1 k1 p1 x hx => ?_⟩
  exact hk g1 F1 w1 H H1 σ x dx Q k1 hx ((p1 e1).mono fun d g3 F3 w3 H3 e3 k3 q v hv => q v (Stable.back hv fun a z => e1.there a z))
theorem de_op [Stable R] [Stable Ra] {op : Operator} {r : R2} {k : D → D → M D} (ho : OpR X (binaryOp op) r) (hk : Op2 κ W X.K Ra Rb R r k) (ha : DE κ W X Ra a fa) (hb : DE κ W X Rb b fb) : DE κ W X R (.BinOp a op b pos) (x2 k fa fb) :=
  PE.weak (pe_op ho ha hb) fun σ H Q h => t2 (X := X) hk h
theorem de_un [Stable R] {op : UnaryOp} {r : V → Hp → VK → Prop} {k : D → M D} (ho : UnR X (unaryOp op) r) (hk : Op1 κ W X.K Ra R r k) (ha : DE κ W X Ra a fa) : DE κ W X R (.UnaryOp op a pos) (x1 k fa) :=
  PE.weak (pe_un ho ha) fun σ H Q h => t1 (X := X) hk h
theorem de_cmp [Stable R] [Stable Ra] {op : CmpOp} {r : R2} {k : D → D → M D} (ho : OpR X (compareOp op) r) (hk : Op2 κ W X.K Ra Rb R r k) (ha : DE κ W X Ra a fa) (hb : DE κ W X Rb b fb) (hm : behindInMarks op b = false) : DE κ W X R (.Compare a [op] [b] pos) (x2 k fa fb) :=
  PE.weak (pe_cmpR ho ha hb hm) fun σ H Q h => t2 (X := X) hk h
theorem de_ix [Stable R] [Stable Ra] {r : R2} {k : D → D → M D} (ho : IxR X r) (hk : Op2 κ W X.K Ra Rb R r k) (ha : DE κ W X Ra a fa) (hb : DE κ W X Rb b fb) (hs : PlainIx b) : DE κ W X R (.Subscript a b pos) (x2 k fa fb) :=
  PE.weak (pe_ix ho ha hb hs) fun σ H Q h => t2 (X := X) hk h

/-! ### tests -/
def asB : D → M Bool
  | .bool b => M.pure b
  | _ => M.bad
def xT (f : DL.X D) : DL.X Bool := fun ρ => M.bind (f ρ) asB
theorem tt_of {σ : L2.St} {H : Hp} {Q : Bool → Hp → Prop} (h : tTt κ W (xT f) σ H Q) : tB (tE κ W RV f) σ H Q := by
  obtain ⟨g, F, own, ρ, w, lr, p⟩ := h
  refine ⟨g, F, own, ρ, w, lr, (po_bind p).mono fun d g1 F1 w1 H1 e1 k1 p1 v hv => ?_⟩
  have p2 := p1 e1
  cases d with
  | bool b => exact ⟨b, hv.bl, po_ok p2 k1⟩
  | _ => exact p2.elim
theorem dt_val (h : DE κ W X RV e f) (he : ∀ whole, isTrue e X.env whole = (do let v ← whole; standAt e.pos; holding [v] (truthy v)) := by intro _; rfl) : DT κ W X e (xT f) :=
  PT.weak (pt_val h he) fun σ H Q h => tt_of h
theorem dt_cmp [Stable Ra] {op : CmpOp} {r : R2} {k : D → D → M D} (ho : OpR X (compareOp op) r) (hk : Op2 κ W X.K Ra Rb RV r k) (ha : DE κ W X Ra a fa) (hb : DE κ W X Rb b fb) (hm : behindInMarks op b = false) : DT κ W X (.Compare a [op] [b] pos) (xT (x2 k fa fb)) :=
  PT.weak (pt_cmpR ho ha hb hm) fun σ H Q h => t2 (X := X) (R := RV) hk (tt_of h)
variable {ga gb gc : DL.X Bool} {rest : List Expr}
def xAnd (ga gb : DL.X Bool) : DL.X Bool := fun ρ => M.bind (ga ρ) fun b => if b then gb ρ else M.pure false
def xOr (ga gb : DL.X Bool) : DL.X Bool := fun ρ => M.bind (ga ρ) fun b => if b then M.pure true else gb ρ
def xNot (ga : DL.X Bool) : DL.X Bool := fun ρ => M.bind (ga ρ) fun b => M.pure (!b)
theorem dw_and (ha : DT κ W X a ga) (hb : DWw κ W X (.BoolOp .And (b :: rest) pos) gb) : DWw κ W X (.BoolOp .And (a :: b :: rest) pos) (xAnd ga gb) := PW.weak (pw_and ha hb) fun σ H Q ⟨g, F, own, ρ, w, lr, p⟩ => by
  refine ⟨g, F, own, ρ, w, lr, (po_bind p).mono fun d g1 F1 w1 H1 e1 k1 p1 => ?_⟩
  have p2 := p1 e1
  cases d with
  | true =>
    rw [if_pos rfl] at p2; refine iteT ?_
    exact ⟨g1, F1, own, ρ, w1, lr.ext e1 k1, p2⟩
  | false =>
    rw [if_neg Bool.false_ne_true] at p2; refine iteF ?_
    exact po_ok p2 k1
theorem dw_or (ha : DT κ W X a ga) (hb : DWw κ W X (.BoolOp .Or (b :: rest) pos) gb) : DWw κ W X (.BoolOp .Or (a :: b :: rest) pos) (xOr ga gb) := PW.weak (pw_or ha hb) fun σ H Q ⟨g, F, own, ρ, w, lr, p⟩ => by
  refine ⟨g, F, own, ρ, w, lr, (po_bind p).mono fun d g1 F1 w1 H1 e1 k1 p1 => ?_⟩
  have p2 := p1 e1
  cases d with
  | true =>
    rw [if_pos rfl] at p2; refine iteT ?_
    exact po_ok p2 k1
  | false =>
    rw [if_neg Bool.false_ne_true] at p2; refine iteF ?_
    exact ⟨g1, F1, own, ρ, w1, lr.ext e1 k1, p2⟩
theorem dw_and1 (ha : DT κ W X a ga) : DWw κ W X (.BoolOp .And [a] pos) ga := pw_and1 ha
theorem dw_or1 (ha : DT κ W X a ga) : DWw κ W X (.BoolOp .Or [a] pos) ga := pw_or1 ha
theorem dt_w (h : DWw κ W X e ga) : DT κ W X e ga := PW.pt h
theorem dt_not (ha : DT κ W X a ga) : DT κ W X (.UnaryOp .Not a pos) (xNot ga) := PT.weak (pt_not ha) fun σ H Q ⟨g, F, own, ρ, w, lr, p⟩ => by
  refine ⟨g, F, own, ρ, w, lr, (po_bind p).mono fun d g1 F1 w1 H1 e1 k1 p1 => ?_⟩
  exact po_ok (p1 e1) k1
/-- a or b, a and b, not a as values (bools) -/
def xAndV (fa fb : DL.X D) : DL.X D := fun ρ => M.bind (fa ρ) fun x => M.bind (asB x) fun b => if b then fb ρ else M.pure (.bool false)
def xOrV (fa fb : DL.X D) : DL.X D := fun ρ => M.bind (fa ρ) fun x => M.bind (asB x) fun b => if b then M.pure (.bool true) else fb ρ
def xNotV (fa : DL.X D) : DL.X D := fun ρ => M.bind (fa ρ) fun x => M.bind (asB x) fun b => M.pure (.bool (!b))
theorem po_asB {g F H w} {σ : L2.St} {x : D} {α : Type} {k : Bool → M α} {K : KE α} {v : V} {H0 : Hp} (p : Po κ W g F H σ (M.bind (asB x) k w) K) (hv : RV g F H0 H v x) : ∃ b, v = .bl b ∧ Po κ W g F H σ (k b w) K := by
  cases x with
  | bool b => exact ⟨b, hv.bl, p⟩
  | _ => exact p.elim
theorem de_and (ha : DE κ W X RV a fa) (hb : DE κ W X RD (.BoolOp .And (b :: rest) pos) fb) : DE κ W X RD (.BoolOp .And (a :: b :: rest) pos) (xAndV fa fb) := PE.weak (pe_and ha hb) fun σ H Q ⟨g, F, own, ρ, w, lr, p⟩ => by
  refine ⟨g, F, own, ρ, w, lr, (po_bind p).mono fun d g1 F1 w1 H1 e1 k1 p1 v hv => ?_⟩
  obtain ⟨c, hc, p2⟩ := po_asB (p1 e1) hv
  refine ⟨c, hc, ?_⟩
  cases c with
  | true =>
    rw [if_pos rfl] at p2; refine iteT ?_
    exact ⟨g1, F1, own, ρ, w1, lr.ext e1 k1, p2⟩
  | false =>
    rw [if_neg Bool.false_ne_true] at p2; refine iteF ?_
    exact po_ok p2 k1 _ (.bl false)
theorem de_or (ha : DE κ W X RV a fa) (hb : DE κ W X RD (.BoolOp .Or (b :: rest) pos) fb) : DE κ W X RD (.BoolOp .Or (a :: b :: rest) pos) (xOrV fa fb) := PE.weak (pe_or ha hb) fun σ H Q ⟨g, F, own, ρ, w, lr, p⟩ => by
  refine ⟨g, F, own, ρ, w, lr, (po_bind p).mono fun d g1 F1 w1 H1 e1 k1 p1 v hv => ?_⟩
  obtain ⟨c, hc, p2⟩ := po_asB (p1 e1) hv
  refine ⟨c, hc, ?_⟩
  cases c with
  | true =>
    rw [if_pos rfl] at p2; refine iteT ?_
    exact po_ok p2 k1 _ (.bl true)
  | false =>
    rw [if_neg Bool.false_ne_true] at p2; refine iteF ?_
    exact ⟨g1, F1, own, ρ, w1, lr.ext e1 k1, p2⟩
theorem de_one {op} (ha : DE κ W X R a fa) : DE κ W X R (.BoolOp op [a] pos) fa := pe_one ha
theorem de_not (ha : DE κ W X RV a fa) : DE κ W X RD (.UnaryOp .Not a pos) (xNotV fa) := PE.weak (pe_not ha) fun σ H Q ⟨g, F, own, ρ, w, lr, p⟩ => by
  refine ⟨g, F, own, ρ, w, lr, (po_bind p).mono fun d g1 F1 w1 H1 e1 k1 p1 v hv => ?_⟩
  obtain ⟨c, hc, p2⟩ := po_asB (p1 e1) hv
  exact ⟨c, hc, po_ok p2 k1 _ (.bl _)⟩
/-- a if t else b -/
def xIf (ga : DL.X Bool) (fa fb : DL.X D) : DL.X D := fun ρ => M.bind (ga ρ) fun b => if b then fa ρ else fb ρ
theorem de_if [Stable R] (hc : DT κ W X c gc) (ha : DE κ W X R a fa) (hb : DE κ W X R b fb) : DE κ W X R (.IfExp c a b pos) (xIf gc fa fb) := PE.weak (pe_ifExp hc ha hb) fun σ H Q ⟨g, F, own, ρ, w, lr, p⟩ => by
  refine ⟨g, F, own, ρ, w, lr, (po_bind p).mono fun d g1 F1 w1 H1 e1 k1 p1 => ?_⟩
  have p2 := p1 e1
  cases d with
  | true =>
    rw [if_pos rfl] at p2; refine iteT ?_
    exact ⟨g1, F1, own, ρ, w1, lr.ext e1 k1, p2.mono fun d g3 F3 w3 H3 e3 k3 q v hv => q v (Stable.back hv fun a z => e1.there a z)⟩
  | false =>
    rw [if_neg Bool.false_ne_true] at p2; refine iteF ?_
    exact ⟨g1, F1, own, ρ, w1, lr.ext e1 k1, p2.mono fun d g3 F3 w3 H3 e3 k3 q v hv => q v (Stable.back hv fun a z => e1.there a z)⟩
/-- a op1 b op2 c -/
def x3 (k k' : D → D → M D) (fa fb fc : DL.X D) : DL.X D := fun ρ => M.bind (fa ρ) fun x => M.bind (fb ρ) fun y => M.bind (k x y) fun z => M.bind (asB z) fun t => if t then M.bind (fc ρ) fun u => k' y u else M.pure (.bool false)
theorem t3 {r r' : R2} {k k' : D → D → M D} {fc : DL.X D} (hk : Op2 κ W X.K RV RV RD r k) (hk' : Op2 κ W X.K RV RV RD r' k') {σ : L2.St} {H : Hp} {Q : VK} (h : tE κ W RD (x3 k k' fa fb fc) σ H Q) : tChain r r' (tE κ W RV fa) (tE κ W RV fb) (tE κ W RV fc) σ H Q := by
  obtain ⟨g, F, own, ρ, w, lr, p⟩ := h
  refine ⟨g, F, own, ρ, w, lr, (po_bind p).mono fun dx g1 F1 w1 H1 e1 k1 p1 x hx => ?_⟩
  refine ⟨g1, F1, own, ρ, w1, lr.ext e1 k1, (po_bind (p1 e1)).mono fun dy g2 F2 w2 H2 e2 k2 p2 y hy => ?_⟩
  refine hk g2 F2 w2 H H1 H2 σ x y dx dy _ k2 (Stable.ext hx e2) hy ((po_bind (p2 e2)).mono fun d g3 F3 w3 H3 e3 k3 p3 v hv => ?_)
  obtain ⟨t, ht, p4⟩ := po_asB (p3 e3) (H0 := H) (.inl hv)
  refine ⟨t, ht, ?_⟩
  cases t with
  | true =>
    rw [if_pos rfl] at p4; refine iteT ?_
    have lr3 := ((lr.ext e1 k1).ext e2 k2).ext e3 k3
    refine ⟨g3, F3, own, ρ, w3, lr3, (po_bind p4).mono fun du g4 F4 w4 H4 e4 k4 p5 u hu => ?_⟩
    exact hk' g4 F4 w4 H1 H3 H4 σ y u dy du Q k4 (Stable.ext (Stable.ext hy e3) e4) hu (p5 e4)
  | false =>
    rw [if_neg Bool.false_ne_true] at p4; refine iteF ?_
    exact po_ok p4 k3 _ (.bl false)
theorem de_chain {op op' : CmpOp} {r r' : R2} {k k' : D → D → M D} {fc : DL.X D} (ho : OpR X (compareOp op) r) (ho' : OpR X (compareOp op') r') (hk : Op2 κ W X.K RV RV RD r k) (hk' : Op2 κ W X.K RV RV RD r' k') (ha : DE κ W X RV a fa) (hb : DE κ W X RV b fb) (hc : DE κ W X RV c fc)
    (hm : lastMarks [op, op'] [b, c] = false := by with_unfolding_all rfl) : DE κ W X RD (.Compare a [op, op'] [b, c] pos) (x3 k k' fa fb fc) := PE.weak (pe_chain ho ho' ha hb hc hm) fun σ H Q h => t3 (X := X) hk hk' h
theorem dt_chain {op op' : CmpOp} {r r' : R2} {k k' : D → D → M D} {fc : DL.X D} (ho : OpR X (compareOp op) r) (ho' : OpR X (compareOp op') r') (hk : Op2 κ W X.K RV RV RD r k) (hk' : Op2 κ W X.K RV RV RD r' k') (ha : DE κ W X RV a fa) (hb : DE κ W X RV b fb) (hc : DE κ W X RV c fc)
    (hm : lastMarks [op, op'] [b, c] = false := by with_unfolding_all rfl) : DT κ W X (.Compare a [op, op'] [b, c] pos) (xT (x3 k k' fa fb fc)) := PT.weak (pt_chain ho ho' ha hb hc hm) fun σ H Q h => t3 (X := X) hk hk' (by
      obtain ⟨g, F, own, ρ, w, lr, p⟩ := h
      refine ⟨g, F, own, ρ, w, lr, (po_bind p).mono fun d g1 F1 w1 H1 e1 k1 p1 v hv => ?_⟩
      have p2 := p1 e1
      cases d with
      | bool b => cases hv; exact ⟨b, rfl, po_ok p2 k1⟩
      | _ => exact p2.elim)

/-! ### argument lists -/
variable {es : List Expr} {Rs : List RelE} {fs : DL.X (List D)}
def xNil : DL.X (List D) := fun _ => M.pure []
def xCons (fa : DL.X D) (fs : DL.X (List D)) : DL.X (List D) := fun ρ => M.bind (fa ρ) fun x => M.bind (fs ρ) fun xs => M.pure (x :: xs)
class StableL (Rs : List RelE) : Prop where
  back : ∀ {g F H0 H1 H vs ds}, RpR g F H1 H Rs vs ds → (∀ a, H1 a = none → H0 a = none) → RpR g F H0 H Rs vs ds
instance : StableL [] := ⟨fun h _ => by cases h; exact .nil⟩
instance [Stable R] [StableL Rs] : StableL (R :: Rs) := ⟨fun h b => by
  cases h with
  | cons h1 h2 => exact .cons (Stable.back h1 b) (StableL.back h2 b)⟩
theorem da_nil : DA κ W X [] [] xNil := PA.weak pa_nil fun σ H Q ⟨g, F, own, ρ, w, lr, p⟩ => po_ok p lr.wk _ .nil
theorem da_cons [Stable R] [StableL Rs] (ha : DE κ W X R a fa) (hr : DA κ W X Rs es fs) (hs : starEach (a :: es) X.env = (false, eval a X.env) :: starEach es X.env := by rfl) : DA κ W X (R :: Rs) (a :: es) (xCons fa fs) := PA.weak (pa_cons ha hr hs) fun σ H Q ⟨g, F, own, ρ, w, lr, p⟩ => by
  refine ⟨g, F, own, ρ, w, lr, (po_bind p).mono fun dx g1 F1 w1 H1 e1 k1 p1 x hx => ?_⟩
  refine ⟨g1, F1, own, ρ, w1, lr.ext e1 k1, (po_bind (p1 e1)).mono fun ds g2 F2 w2 H2 e2 k2 p2 vs hvs => ?_⟩
  exact po_ok (p2 e2) k2 _ (.cons (Stable.ext hx e2) (StableL.back hvs fun a z => e1.there a z))
end
end DL

/-! The data layer, 3: operators, built-ins, displays, calls. -/
namespace DL
open PySem PySem.Spec PyProof.Rows L2
variable [Ec]

/-- a way to hand back a list just made -/
class MkL (R : RelE) : Prop extends Stable R where
  nw : ∀ {κ : Kn} {g F w H q vs ds}, Wk κ g F w H → H q = none → RpL g F vs ds → ∃ F', Ext g F H g F' (upd H q (.lst vs)) ∧ Wk κ g F' w (upd H q (.lst vs)) ∧ R g F' H (upd H q (.lst vs)) (.ref q) (.list ds)
instance : MkL RN where
  nw := fun {κ g F w H q vs ds} k hq hr => ⟨F, Ext.hid hq, k.hid (k.fresh hq).1 (k.fresh hq).2, q, vs, ds, rfl, rfl, hq, (k.fresh hq).2, (k.fresh hq).1, upd_same, hr⟩
instance : MkL RD where
  nw := fun {κ g F w H q vs ds} k hq hr => ⟨upd F q (.lst vs), Ext.new hq (k.fresh hq).2, k.new hq, .lst upd_same (hr.mono List.prefix_rfl fun b o z => by rw [upd_ne (ne_of_none z (k.fresh hq).2)]; exact z)⟩
instance : MkL RV where
  nw := fun {κ g F w H q vs ds} k hq hr => ⟨F, Ext.hid hq, k.hid (k.fresh hq).1 (k.fresh hq).2, .inr ⟨q, vs, ds, rfl, rfl, (k.fresh hq).1, upd_same, hr⟩⟩
section
variable {κ : Kn} {W : WX} {g : List Addr} {F H : Hp} {w : W'} {σ : L2.St} {R : RelE}
theorem po_list [MkL R] {ds : List D} {vs : List V} {q : Addr} {Q : VK} (p : Po κ W g F H σ (.ok (.list ds) w) fun d g' F' _ H' => ∀ v, R g' F' H H' v d → Q v H') (k : Wk κ g F w H) (hq : H q = none) (hr : RpL g F vs ds) : Q (.ref q) (upd H q (.lst vs)) := by
  obtain ⟨F', e, k', r⟩ := MkL.nw (R := R) k hq hr
  exact p g F' _ e k' _ r
/-- frozen data may be handed back by RD and by RV -/
class Fz (R : RelE) : Prop extends Stable R where
  fz : ∀ {g F H0 H v d}, Rp g F v d → R g F H0 H v d
instance : Fz RD := ⟨fun h => h⟩
instance : Fz RV := ⟨fun h => .inl h⟩
theorem po_tup [Fz R] {ds : List D} {vs : List V} {q : Addr} {Q : VK} (p : Po κ W g F H σ (.ok (.tuple ds) w) fun d g' F' _ H' => ∀ v, R g' F' H H' v d → Q v H') (k : Wk κ g F w H) (hq : H q = none) (hr : RpL g F vs ds) : Q (.ref q) (upd H q (.tup vs)) :=
  p g (upd F q (.tup vs)) _ (Ext.new hq (k.fresh hq).2) (k.new hq) _ (Fz.fz (.tup upd_same (hr.mono List.prefix_rfl fun b o z => by rw [upd_ne (ne_of_none z (k.fresh hq).2)]; exact z)))
theorem po_fz [Fz R] {d : D} {v : V} {Q : VK} (p : Po κ W g F H σ (.ok d w) fun d g' F' _ H' => ∀ v, R g' F' H H' v d → Q v H') (k : Wk κ g F w H) (h : Rp g F v d) : Q v H := po_ok p k _ (Fz.fz h)
end

/-- a test of the mirror: what isn't so stops it -/
def chk (b : Bool) {α : Type} (m : M α) : M α := if b then m else M.bad
theorem po_chk {κ : Kn} {W : WX} {g F H σ w} {α : Type} {b : Bool} {m : M α} {K : KE α} (p : Po κ W g F H σ (chk b m w) K) : b = true ∧ Po κ W g F H σ (m w) K := by
  cases b with
  | true => exact ⟨rfl, p⟩
  | false => exact p.elim
def szOk (n : Nat) : Bool := decide (n ≤ sizeLine)

/-! ### operators -/
def kAdd : D → D → M D
  | .int i, .int j => M.pure (.int (i + j))
  | .list xs, .list ys => chk (szOk (xs.length + ys.length)) (M.pure (.list (xs ++ ys)))
  | .str a, .str b => chk (szOk (a.length + b.length)) (M.pure (.str (a ++ b)))
  | .tuple xs, .tuple ys => chk (szOk (xs.length + ys.length)) (M.pure (.tuple (xs ++ ys)))
  | _, _ => M.bad
def rAddA (K : PySem.W.Frag) : R2 := fun x y H Q => rI0 (fun i j => .int (i + j)) x y H Q ∨ rCat x y H Q ∨ (∃ i j, x = .str i ∧ y = .str j ∧ i.length + j.length ≤ sizeLine ∧ Q (.str (i ++ j)) H) ∨ rCatA K x y H Q
section
variable {κ : Kn} {W : WX} {X : Cx} {K : PySem.W.Frag}
theorem or_add : OpR X (binaryOp .Add) (rAddA X.K) := OpR.or op_add (OpR.or op_cat (OpR.or op_add_str op_catA))
theorem Op2.of {R : RelE} {r : R2} {k : D → D → M D} (h : ∀ (g : List Addr) (F : Hp) (w : W') (H0 H1 H : Hp) (σ : L2.St) (x y : V) (dx dy : D) (Q : VK), Wk κ g F w H → RV g F H0 H x dx → RV g F H1 H y dy →
    Po κ W g F H σ (k dx dy w) (fun d g' F' _ H' => ∀ v, R g' F' H H' v d → Q v H') → r x y H Q) : Op2 κ W K RV RV R r k := h
theorem k_add : Op2 κ W K RV RV RD (rAddA K) kAdd := fun g F w H0 H1 H σ x y dx dy Q k hx hy p => by
  cases dx with
  | int i =>
    cases dy with
    | int j =>
      rw [hx.int, hy.int]
      exact .inl ⟨i, j, rfl, rfl, po_fz p k (.int _)⟩
    | _ => exact p.elim
  | list xs =>
    cases dy with
    | list ys =>
      obtain ⟨c, p⟩ := po_chk p
      obtain ⟨a, vs, rfl, ha, ra⟩ := hx.list k
      obtain ⟨b, us, rfl, hb, rb⟩ := hy.list k
      refine .inr (.inl ⟨a, b, vs, us, rfl, rfl, ha, hb, ?_, fun q hq => po_list p k hq (ra.append rb)⟩)
      rw [ra.length, rb.length]
      exact of_decide_eq_true c
    | _ => exact p.elim
  | str a =>
    cases dy with
    | str b =>
      obtain ⟨c, p⟩ := po_chk p
      rw [hx.str, hy.str]
      exact .inr (.inr (.inl ⟨a, b, rfl, rfl, of_decide_eq_true c, po_fz p k (.str _)⟩))
    | _ => exact p.elim
  | tuple xs =>
    cases dy with
    | tuple ys =>
      obtain ⟨c, p⟩ := po_chk p
      obtain ⟨a, vs, rfl, hFa, ha, ra⟩ := hx.tup k
      obtain ⟨b, us, rfl, hFb, hb, rb⟩ := hy.tup k
      refine .inr (.inr (.inr ⟨a, b, vs, us, rfl, rfl, SqT.of ha, SqT.of hb, ?_, fun e => ?_, fun _ e => ?_, fun _ _ q hq => po_tup p k hq (ra.append rb)⟩))
      · rw [ra.length, rb.length]
        exact of_decide_eq_true c
      · subst e
        cases ra
        exact po_fz p k (.tup hFb rb)
      · subst e
        cases rb
        rw [List.append_nil] at p
        exact po_fz p k (.tup hFa ra)
    | _ => exact p.elim
  | _ => exact p.elim
theorem de_add {a b : Expr} {fa fb : DL.X D} {pos : Pos} (ha : DE κ W X RV a fa) (hb : DE κ W X RV b fb) : DE κ W X RD (.BinOp a .Add b pos) (x2 kAdd fa fb) := de_op or_add k_add ha hb

def kI (f : Int → Int → D) : D → D → M D
  | .int i, .int j => M.pure (f i j)
  | _, _ => M.bad
theorem k_i {g' : Int → Int → V} {f : Int → Int → D} (hf : ∀ g F i j, Rp g F (g' i j) (f i j)) : Op2 κ W K RV RV RD (rI0 g') (kI f) := fun g F w H0 H1 H σ x y dx dy Q k hx hy p => by
  cases dx with
  | int i =>
    cases dy with
    | int j =>
      rw [hx.int, hy.int]
      exact ⟨i, j, rfl, rfl, po_fz p k (hf g F i j)⟩
    | _ => exact p.elim
  | _ => exact p.elim
def kIc (C : Int → Int → Bool) (f : Int → Int → D) : D → D → M D
  | .int i, .int j => chk (C i j) (M.pure (f i j))
  | _, _ => M.bad
theorem k_ic {C' : Int → Int → Prop} {C : Int → Int → Bool} {g' : Int → Int → V} {f : Int → Int → D} (hC : ∀ i j, C i j = true → C' i j) (hf : ∀ g F i j, Rp g F (g' i j) (f i j)) : Op2 κ W K RV RV RD (rI C' g') (kIc C f) := fun g F w H0 H1 H σ x y dx dy Q k hx hy p => by
  cases dx with
  | int i =>
    cases dy with
    | int j =>
      obtain ⟨c, p⟩ := po_chk p
      rw [hx.int, hy.int]
      exact ⟨i, j, rfl, rfl, hC i j c, po_fz p k (hf g F i j)⟩
    | _ => exact p.elim
  | _ => exact p.elim
def kSub := kI fun i j => .int (i - j)
def kLt := kI fun i j => .bool (decide (i < j))
def kLe := kI fun i j => .bool (decide (i ≤ j))
def kGt := kI fun i j => .bool (decide (j < i))
def kGe := kI fun i j => .bool (decide (j ≤ i))
def cDiv (i j : Int) : Bool := decide (0 < j) && decide (j < 1073741824)
def cMod (i j : Int) : Bool := decide (0 < j)
def kDiv := kIc cDiv fun i j => .int (i / j)
def kMod := kIc cMod fun i j => .int (i % j)
theorem k_sub : Op2 κ W K RV RV RD (rI0 fun i j => .int (i - j)) kSub := k_i fun _ _ _ _ => .int _
theorem k_lt : Op2 κ W K RV RV RD (rI0 fun i j => .bl (decide (i < j))) kLt := k_i fun _ _ _ _ => .bl _
theorem k_le : Op2 κ W K RV RV RD (rI0 fun i j => .bl (decide (i ≤ j))) kLe := k_i fun _ _ _ _ => .bl _
theorem k_gt : Op2 κ W K RV RV RD (rI0 fun i j => .bl (decide (j < i))) kGt := k_i fun _ _ _ _ => .bl _
theorem k_ge : Op2 κ W K RV RV RD (rI0 fun i j => .bl (decide (j ≤ i))) kGe := k_i fun _ _ _ _ => .bl _
theorem k_div : Op2 κ W K RV RV RD (rI CDiv fun i j => .int (i / j)) kDiv := k_ic (fun i j h => by
  unfold cDiv at h
  rw [Bool.and_eq_true] at h
  exact ⟨of_decide_eq_true h.1, of_decide_eq_true h.2⟩) fun _ _ _ _ => .int _
theorem k_mod : Op2 κ W K RV RV RD (rI (fun _ j => 0 < j) fun i j => .int (i % j)) kMod := k_ic (fun i j h => of_decide_eq_true h) fun _ _ _ _ => .int _
theorem Op2.rv {Ra Rb : RelE} {r : R2} {k : D → D → M D} (h : Op2 κ W K Ra Rb RD r k) : Op2 κ W K Ra Rb RV r k := fun g F w H0 H1 H σ x y dx dy Q k' hx hy p => h g F w H0 H1 H σ x y dx dy Q k' hx hy (p.mono fun d g' F' w' H' _ _ q v hv => q v (.inl hv))
/-- a * b -/
def cMul (i j : Int) : Bool := (decide (-(2 ^ 64) < i) && decide (i < 2 ^ 64)) || (decide (-(2 ^ 64) < j) && decide (j < 2 ^ 64))
def cRep (xs : List D) (k : Int) : Bool := decide (-(2 ^ 63) ≤ k) && decide (k < 2 ^ 63) && szOk (xs.length * k.toNat)
def kMul : D → D → M D
  | .int i, .int j => chk (cMul i j) (M.pure (.int (i * j)))
  | .list xs, .int k => chk (cRep xs k) (M.pure (.list (List.replicate k.toNat xs).flatten))
  | _, _ => M.bad
theorem or_mul : OpR X (binaryOp .Mult) (fun x y H Q => rI CMul (fun i j => .int (i * j)) x y H Q ∨ rRep x y H Q) := OpR.or op_mul op_rep
theorem RpL.rep {g F} {vs : List V} {ds : List D} (h : RpL g F vs ds) : ∀ n : Nat, RpL g F (List.replicate n vs).flatten (List.replicate n ds).flatten
  | 0 => .nil
  | n + 1 => by
    rw [List.replicate_succ, List.replicate_succ, List.flatten_cons, List.flatten_cons]
    exact h.append (h.rep n)
theorem k_mul : Op2 κ W K RV RV RD (fun x y H Q => rI CMul (fun i j => .int (i * j)) x y H Q ∨ rRep x y H Q) kMul := fun g F w H0 H1 H σ x y dx dy Q k hx hy p => by
  cases dx with
  | int i =>
    cases dy with
    | int j =>
      obtain ⟨c, p⟩ := po_chk p
      rw [hx.int, hy.int]
      refine .inl ⟨i, j, rfl, rfl, ?_, po_fz p k (.int _)⟩
      unfold cMul at c
      simp only [Bool.or_eq_true, Bool.and_eq_true, decide_eq_true_eq] at c
      exact c
    | _ => exact p.elim
  | list xs =>
    cases dy with
    | int j =>
      obtain ⟨c, p⟩ := po_chk p
      obtain ⟨a, vs, rfl, ha, ra⟩ := hx.list k
      rw [hy.int]
      unfold cRep szOk at c
      simp only [Bool.and_eq_true, decide_eq_true_eq] at c
      refine .inr ⟨a, j, vs, rfl, rfl, ha, c.1.1, c.1.2, ?_, fun q hq => po_list p k hq (ra.rep _)⟩
      rw [ra.length]
      exact c.2
    | _ => exact p.elim
  | _ => exact p.elim

/-! ### comparisons -/
def kEq (a b : D) : M D := chk (SeqAt.shaped a && SeqAt.shaped b) (M.pure (.bool (PyData.eqv a b)))
def kNe (a b : D) : M D := chk (SeqAt.shaped a && SeqAt.shaped b) (M.pure (.bool (!PyData.eqv a b)))
theorem shaped_lay {d : D} (h : SeqAt.shaped d = true) : d.canLay0 = true := SeqAt.canLay_of_shaped h
theorem k_eq : Op2 κ W K RV RV RD (rEqD K) kEq := fun g F w H0 H1 H σ x y dx dy Q k hx hy p => by
  obtain ⟨c, p⟩ := po_chk p
  rw [Bool.and_eq_true] at c
  exact ⟨dx, dy, hx.dp k (shaped_lay c.1), hy.dp k (shaped_lay c.2), c.1, c.2, po_fz p k (.bl _)⟩
theorem k_ne : Op2 κ W K RV RV RD (rNeD K) kNe := fun g F w H0 H1 H σ x y dx dy Q k hx hy p => by
  obtain ⟨c, p⟩ := po_chk p
  rw [Bool.and_eq_true] at c
  exact ⟨dx, dy, hx.dp k (shaped_lay c.1), hy.dp k (shaped_lay c.2), c.1, c.2, po_fz p k (.bl _)⟩
/-- x in xs; a sign, a text in a text -/
def kIn (a : D) : D → M D
  | .list ds => chk (SeqAt.shaped a && SeqAt.shaped (.list ds)) (M.pure (.bool (ds.any fun z => PyData.eqv z a)))
  | .str z => match a with
    | .str y => M.pure (.bool (!(Builtin.Str.occurrences z y 0 z.length 1).isEmpty))
    | _ => M.bad
  | _ => M.bad
def kNotIn (a : D) : D → M D
  | .list ds => chk (SeqAt.shaped a && SeqAt.shaped (.list ds)) (M.pure (.bool (!ds.any fun z => PyData.eqv z a)))
  | _ => M.bad
def rInA (K : PySem.W.Frag) : R2 := fun x y H Q => rInD K x y H Q ∨ (∃ i j, x = .str i ∧ y = .str j ∧ Q (.bl (!(Builtin.Str.occurrences j i 0 j.length 1).isEmpty)) H)
theorem or_in (hu : X.A.units + 65 < cLine) : OpR X (compareOp .In) (rInA X.K) := OpR.or (op_inD hu) op_in_str
theorem k_in : Op2 κ W K RV RV RD (rInA K) kIn := fun g F w H0 H1 H σ x y dx dy Q k hx hy p => by
  cases dy with
  | list ds =>
    obtain ⟨c, p⟩ := po_chk p
    rw [Bool.and_eq_true] at c
    exact .inl ⟨dx, ds, hx.dp k (shaped_lay c.1), hy.dp k (shaped_lay c.2), c.1, c.2, po_fz p k (.bl _)⟩
  | str z =>
    cases dx with
    | str i =>
      rw [hx.str, hy.str]
      exact .inr ⟨i, z, rfl, rfl, po_fz p k (.bl _)⟩
    | _ => exact p.elim
  | _ => exact p.elim
theorem k_notIn : Op2 κ W K RV RV RD (rNotInD K) kNotIn := fun g F w H0 H1 H σ x y dx dy Q k hx hy p => by
  cases dy with
  | list ds =>
    obtain ⟨c, p⟩ := po_chk p
    rw [Bool.and_eq_true] at c
    exact ⟨dx, ds, hx.dp k (shaped_lay c.1), hy.dp k (shaped_lay c.2), c.1, c.2, po_fz p k (.bl _)⟩
  | _ => exact p.elim
/-- is, is not: with None, of bools -/
def isNon : D → Bool
  | .none => true
  | _ => false
def kIs (a : D) : D → M D
  | .none => M.pure (.bool (isNon a))
  | .bool c => match a with
    | .bool b => M.pure (.bool (decide (b = c)))
    | _ => M.bad
  | _ => M.bad
def kIsNot (a : D) : D → M D
  | .none => M.pure (.bool (!isNon a))
  | .bool c => match a with
    | .bool b => M.pure (.bool (!decide (b = c)))
    | _ => M.bad
  | _ => M.bad
theorem isNon_of {g F H0 H v} {d : D} (h : RV g F H0 H v d) : decide (v = .non) = isNon d := by
  rcases h with h | ⟨a, vs, es, h1, h2, _⟩
  · cases h <;> first | rfl | exact decide_eq_false (fun z => nomatch z)
  · subst h1 h2
    exact decide_eq_false (fun z => nomatch z)
theorem or_is : OpR X (compareOp .Is) (fun x y H Q => (y = .non ∧ Q (.bl (decide (x = .non))) H) ∨ rIsB x y H Q) := OpR.or op_isN op_isBl
theorem or_isnot : OpR X (compareOp .IsNot) (fun x y H Q => (y = .non ∧ Q (.bl (!decide (x = .non))) H) ∨ rNotB x y H Q) := OpR.or op_notN op_notBl
theorem k_is : Op2 κ W K RV RV RD (fun x y H Q => (y = .non ∧ Q (.bl (decide (x = .non))) H) ∨ rIsB x y H Q) kIs := fun g F w H0 H1 H σ x y dx dy Q k hx hy p => by
  cases dy with
  | none => exact .inl ⟨hy.non, by rw [isNon_of hx]; exact po_fz p k (.bl _)⟩
  | bool c =>
    cases dx with
    | bool b => exact .inr ⟨b, c, hx.bl, hy.bl, po_fz p k (.bl _)⟩
    | _ => exact p.elim
  | _ => exact p.elim
theorem k_isnot : Op2 κ W K RV RV RD (fun x y H Q => (y = .non ∧ Q (.bl (!decide (x = .non))) H) ∨ rNotB x y H Q) kIsNot := fun g F w H0 H1 H σ x y dx dy Q k hx hy p => by
  cases dy with
  | none => exact .inl ⟨hy.non, by rw [isNon_of hx]; exact po_fz p k (.bl _)⟩
  | bool c =>
    cases dx with
    | bool b => exact .inr ⟨b, c, hx.bl, hy.bl, po_fz p k (.bl _)⟩
    | _ => exact p.elim
  | _ => exact p.elim

/-! ### items, slices -/
def kIx : D → D → M D
  | .list ds, .int i => match atI ds i with
    | some d => M.pure d
    | none => M.bad
  | .tuple ds, .int i => match atI ds i with
    | some d => M.pure d
    | none => M.bad
  | .str z, .int i => match atI z.cps.toList i with
    | some c => chk (szOk z.length) (M.pure (.str ⟨#[c]⟩))
    | none => M.bad
  | _, _ => M.bad
theorem RpL.atI {g F} {vs : List V} {ds : List D} {i : Int} {d : D} (h : RpL g F vs ds) (e : atI ds i = some d) : ∃ v, L2.atI vs i = some v ∧ Rp g F v d := by
  unfold L2.atI at e ⊢
  rw [h.length]
  cases q : ixN ds.length i with
  | none => rw [q] at e; cases e
  | some j =>
    rw [q] at e
    obtain ⟨v, h1, h2⟩ := h.get e
    exact ⟨v, h1, h2⟩
theorem k_ix [Fz R] : Op2 κ W K RV RV R (rIx K) kIx := fun g F w H0 H1 H σ x y dx dy Q k hx hy p => by
  cases dx with
  | list ds =>
    cases dy with
    | int i =>
      unfold kIx at p
      dsimp only at p
      cases e : L2.atI ds i with
      | none => rw [e] at p; exact p.elim
      | some d =>
        rw [e] at p
        obtain ⟨a, vs, rfl, ha, ra⟩ := hx.list k
        obtain ⟨v, h1, h2⟩ := ra.atI e
        rw [hy.int]
        exact .inl ⟨a, vs, i, v, rfl, rfl, SqL.of ha, h1, po_fz p k h2⟩
    | _ => exact p.elim
  | tuple ds =>
    cases dy with
    | int i =>
      unfold kIx at p
      dsimp only at p
      cases e : L2.atI ds i with
      | none => rw [e] at p; exact p.elim
      | some d =>
        rw [e] at p
        obtain ⟨a, vs, rfl, _, ha, ra⟩ := hx.tup k
        obtain ⟨v, h1, h2⟩ := ra.atI e
        rw [hy.int]
        exact .inr (.inl ⟨a, vs, i, v, rfl, rfl, SqT.of ha, h1, po_fz p k h2⟩)
    | _ => exact p.elim
  | str z =>
    cases dy with
    | int i =>
      unfold kIx at p
      dsimp only at p
      cases e : L2.atI z.cps.toList i with
      | none => rw [e] at p; exact p.elim
      | some c =>
        rw [e] at p
        obtain ⟨hc, p⟩ := po_chk p
        rw [hx.str, hy.int]
        exact .inr (.inr ⟨z, i, c, rfl, rfl, of_decide_eq_true hc, e, po_fz p k (.str _)⟩)
    | _ => exact p.elim
  | _ => exact p.elim
theorem de_item [Fz R] {a b : Expr} {fa fb : DL.X D} {pos : Pos} (ha : DE κ W X RV a fa) (hb : DE κ W X RV b fb) (hs : PlainIx b := by intro _ _; rfl) : DE κ W X R (.Subscript a b pos) (x2 kIx fa fb) := de_ix ix_seq k_ix ha hb hs
/-- a part of a slice -/
def xNoPart : DL.X (Option Int) := fun _ => M.pure none
def asI : D → M Int
  | .int i => M.pure i
  | _ => M.bad
def xPart (f : DL.X D) : DL.X (Option Int) := fun ρ => M.bind (f ρ) fun d => M.bind (asI d) fun i => M.pure (some i)
def tPo (κ : Kn) (W : WX) (f : DL.X (Option Int)) : TO := fun σ H Q => ∃ g F own ρ w, Lr κ g F own ρ w σ H ∧ Po κ W g F H σ (f ρ w) fun o _ _ _ H' => Q o H'
abbrev DO (κ : Kn) (W : WX) (X : Cx) (e : Option Expr) (f : DL.X (Option Int)) : Prop := PO X e (tPo κ W f)
theorem PO.weak {X : Cx} {e : Option Expr} {t t' : TO} (h : PO X e t) (i : ∀ σ H Q, t' σ H Q → t σ H Q) : PO X e t' := ⟨fun pins s σ H Q I q => h.run pins s σ H Q I (i σ H Q q)⟩
theorem do_none : DO κ W X none xNoPart := PO.weak po_none fun σ H Q ⟨g, F, own, ρ, w, r, p⟩ => po_ok p r.wk
theorem do_some {e : Expr} {f : DL.X D} (h : DE κ W X RD e f) : DO κ W X (some e) (xPart f) := PO.weak (po_some h) fun σ H Q ⟨g, F, own, ρ, w, r, p⟩ => by
  refine ⟨g, F, own, ρ, w, r, (po_bind p).mono fun d g1 F1 w1 H1 e1 k1 p1 v hv => ?_⟩
  have p2 := p1 e1
  cases d with
  | int i => cases hv; exact ⟨i, rfl, po_ok p2 k1⟩
  | _ => exact p2.elim
def cutD (xs : List D) (lo hi : Option Int) : List D := (xs.drop (HT.sIx xs.length 0 lo)).take (HT.sIx xs.length xs.length hi - HT.sIx xs.length 0 lo)
def kSl : D → Option Int → Option Int → M D
  | .list ds, lo, hi => M.pure (.list (cutD ds lo hi))
  | .tuple ds, lo, hi => M.pure (.tuple (cutD ds lo hi))
  | .str z, lo, hi => chk (szOk z.length) (M.pure (.str (cutS z lo hi)))
  | _, _, _ => M.bad
def xSl (f : DL.X D) (lo hi : DL.X (Option Int)) : DL.X D := fun ρ => M.bind (f ρ) fun x => M.bind (lo ρ) fun l => M.bind (hi ρ) fun h => kSl x l h
theorem RpL.cut {g F} {vs : List V} {ds : List D} (h : RpL g F vs ds) (lo hi : Option Int) : RpL g F (cutV vs lo hi) (cutD ds lo hi) := by
  unfold cutV cutD
  rw [h.length]
  exact (h.drop _).take _
theorem or_sl : SlR X (fun x lo hi H Q => rSlL X.K x lo hi H Q ∨ rSlA X.K x lo hi H Q ∨ rSlS x lo hi H Q) := SlR.or sl_list (SlR.or sl_tupA sl_str)
theorem cut_whole {ds : List D} {lo hi : Option Int} (h : HT.sIx ds.length 0 lo = 0 ∧ HT.sIx ds.length ds.length hi = ds.length) : cutD ds lo hi = ds := by
  unfold cutD
  rw [h.1, h.2, List.drop_zero, Nat.sub_zero, List.take_length]
theorem de_slice {a : Expr} {fa : DL.X D} {lo hi : Option Expr} {fl fh : DL.X (Option Int)} {p2 pos : Pos} (ha : DE κ W X RV a fa) (hl : DO κ W X lo fl) (hh : DO κ W X hi fh) : DE κ W X RD (.Subscript a (.Slice lo hi none p2) pos) (xSl fa fl fh) :=
  PE.weak (pe_slice or_sl ha hl hh) fun σ H Q ⟨g, F, own, ρ, w, r, p⟩ => by
    refine ⟨g, F, own, ρ, w, r, (po_bind p).mono fun d g1 F1 w1 H1 e1 k1 p1 v hv => ?_⟩
    refine ⟨g1, F1, own, ρ, w1, r.ext e1 k1, (po_bind (p1 e1)).mono fun l g2 F2 w2 H2 e2 k2 p2 => ?_⟩
    refine ⟨g2, F2, own, ρ, w2, (r.ext e1 k1).ext e2 k2, (po_bind (p2 e2)).mono fun u g3 F3 w3 H3 e3 k3 p3 => ?_⟩
    have p4 := p3 e3
    have hv := Stable.ext (Stable.ext hv e2) e3
    cases d with
    | list ds =>
      obtain ⟨a, vs, rfl, ha, ra⟩ := hv.list k3
      exact .inl ⟨a, vs, rfl, SqL.of ha, fun q hq => po_list (R := RD) p4 k3 hq (ra.cut l u)⟩
    | tuple ds =>
      obtain ⟨a, vs, rfl, hFa, ha, ra⟩ := hv.tup k3
      refine .inr (.inl ⟨a, vs, rfl, SqT.of ha, fun z => ?_, fun _ q hq => po_tup (R := RD) p4 k3 hq (ra.cut l u)⟩)
      have z' := z
      rw [ra.length] at z'
      have p5 := po_fz (R := RD) (v := .ref a) p4 k3
      refine p5 ?_
      rw [cut_whole z']
      exact .tup hFa ra
    | str z =>
      obtain ⟨hc, p4⟩ := po_chk p4
      rw [hv.str]
      exact .inr (.inr ⟨z, rfl, of_decide_eq_true hc, po_fz (R := RD) p4 k3 (.str _)⟩)
    | _ => exact p4.elim
def kRev : D → M D
  | .list ds => M.pure (.list ds.reverse)
  | _ => M.bad
theorem de_rev [MkL R] {a : Expr} {fa : DL.X D} {k : Nat} {p1 p2 p3 pos : Pos} (ha : DE κ W X RV a fa) : DE κ W X R (.Subscript a (.Slice none none (some (.UnaryOp .USub (.Constant (.int 1) k p1) p2)) p3) pos) (x1 kRev fa) :=
  PE.weak (pe_revL ha) fun σ H Q h => t1 (X := X) (r := fun x H1 Q => ∃ a xs, x = .ref a ∧ SqL X.K H1 a xs ∧ ∀ p, H1 p = none → Q (.ref p) (upd H1 p (.lst xs.reverse))) (fun g F w H0 H σ x dx Q k hx p => by
    cases dx with
    | list ds =>
      obtain ⟨a, vs, rfl, ha, ra⟩ := hx.list k
      exact ⟨a, vs, rfl, SqL.of ha, fun q hq => po_list p k hq ra.reverse⟩
    | _ => exact p.elim) h
def kNeg : D → M D
  | .int i => M.pure (.int (-i))
  | _ => M.bad
theorem de_neg {a : Expr} {fa : DL.X D} {pos : Pos} (ha : DE κ W X RV a fa) : DE κ W X RD (.UnaryOp .USub a pos) (x1 kNeg fa) := de_un un_neg (fun g F w H0 H σ x dx Q k hx p => by
  cases dx with
  | int i => rw [hx.int]; exact ⟨i, rfl, po_fz p k (.int _)⟩
  | _ => exact p.elim) ha

/-! ### displays -/
class AllD (Rs : List RelE) : Prop where
  to : ∀ {g F H0 H vs ds}, RpR g F H0 H Rs vs ds → RpL g F vs ds
  n : ∀ {g F H0 H vs ds}, RpR g F H0 H Rs vs ds → vs.length = Rs.length
instance : AllD [] := ⟨fun h => by cases h; exact .nil, fun h => by cases h; rfl⟩
instance {Rs : List RelE} [AllD Rs] : AllD (RD :: Rs) := ⟨fun h => by
  cases h with
  | cons h1 h2 => exact .cons h1 (AllD.to h2), fun h => by
  cases h with
  | cons h1 h2 => rw [List.length_cons, List.length_cons, AllD.n h2]⟩
def xLst (f : DL.X (List D)) : DL.X D := fun ρ => M.bind (f ρ) fun ds => M.pure (.list ds)
def xTup (f : DL.X (List D)) : DL.X D := fun ρ => M.bind (f ρ) fun ds => M.pure (.tuple ds)
variable {Rs : List RelE} {es : List Expr} {fs : DL.X (List D)} {pos : Pos}
theorem de_lst [MkL R] [AllD Rs] (h : DA κ W X Rs es fs) (hl : Rs.length ≤ sizeLine := by simp only [List.length_cons, List.length_nil]; decide) : DE κ W X R (.List es pos) (xLst fs) := PE.weak (pe_lst h) fun σ H Q ⟨g, F, own, ρ, w, r, p⟩ => by
  refine ⟨g, F, own, ρ, w, r, (po_bind p).mono fun ds g1 F1 w1 H1 e1 k1 p1 vs hv => ⟨by rw [AllD.n hv]; exact hl, fun q hq => ?_⟩⟩
  exact po_list (R := R) ((p1 e1).mono fun d g' F' w' H' e k q v hv => q v (Stable.back hv fun a z => e1.there a z)) k1 hq (AllD.to hv)
theorem de_tup [AllD Rs] {k : Nat} (h : DA κ W X Rs es fs) (hl : Rs.length ≤ sizeLine := by simp only [List.length_cons, List.length_nil]; decide) : DE κ W X RD (.Tuple es k pos) (xTup fs) := PE.weak (pe_tup h) fun σ H Q ⟨g, F, own, ρ, w, r, p⟩ => by
  refine ⟨g, F, own, ρ, w, r, (po_bind p).mono fun ds g1 F1 w1 H1 e1 k1 p1 vs hv => ⟨by rw [AllD.n hv]; exact hl, fun q hq => ?_⟩⟩
  exact po_tup (R := RD) (p1 e1) k1 hq (AllD.to hv)

/-! ### built-ins -/
/-- what a call of a built-in must give for its mirror k -/
def OpA (κ : Kn) (W : WX) (Rs : List RelE) (R : RelE) (r : List V → Hp → VK → Prop) (k : List D → M D) : Prop :=
  ∀ (g : List Addr) (F : Hp) (w : W') (H0 H : Hp) (σ : L2.St) (vs : List V) (ds : List D) (Q : VK), Wk κ g F w H → RpR g F H0 H Rs vs ds →
    Po κ W g F H σ (k ds w) (fun d g' F' _ H' => ∀ v, R g' F' H H' v d → Q v H') → r vs H Q
def xCall (k : List D → M D) (fs : DL.X (List D)) : DL.X D := fun ρ => M.bind (fs ρ) k
theorem tcb [Stable R] {r : List V → Hp → VK → Prop} {k : List D → M D} (hk : OpA κ W Rs R r k) {σ : L2.St} {H : Hp} {Q : VK} (h : tE κ W R (xCall k fs) σ H Q) : tCB r (tAr κ W Rs fs) σ H Q := by
  obtain ⟨g, F, own, ρ, w, lr, p⟩ := h
  refine ⟨g, F, own, ρ, w, lr, (po_bind p).mono fun ds g1 F1 w1 H1 e1 k1 p1 vs hv => ?_⟩
  exact hk g1 F1 w1 H H1 σ vs ds Q k1 hv ((p1 e1).mono fun d g3 F3 w3 H3 e3 k3 q v hv => q v (Stable.back hv fun a z => e1.there a z))
theorem de_callB [Stable R] {x : Str} {p : Pos} {e : Expr} {id : String} {r : List V → Hp → VK → Prop} {k : List D → M D} (hc : CallR X (.builtin id) r) (hk : OpA κ W Rs R r k) (hg : Gl X x) (hm : X.mg x = none) (hv : bootBuiltins x = some (.builtin id)) (ha : DA κ W X Rs (e :: es) fs) (hn : x ≠ "__name__" := by decide) (hdb : (x == ("__debug__" : Str)) = false := by decide)
    (he : starEach (e :: es) X.env = (false, eval e X.env) :: starEach es X.env := by rfl) (hpl : (backTo pos (starEach es X.env)).any (·.1) = false := by rfl) : DE κ W X R (.Call (.Name x p) (e :: es) [] pos) (xCall k fs) :=
  PE.weak (pe_callB hc hg hm hv ha hn hdb he hpl) fun σ H Q h => tcb hk h
theorem de_callT [Stable R] {x : Str} {p : Pos} {e : Expr} {T : String} {r : List V → Hp → VK → Prop} {k : List D → M D} (hc : CallR X (.type T) r) (hk : OpA κ W Rs R r k) (hg : Gl X x) (hm : X.mg x = none) (hv : bootBuiltins x = some (.type T)) (ha : DA κ W X Rs (e :: es) fs) (hn : x ≠ "__name__" := by decide) (hdb : (x == ("__debug__" : Str)) = false := by decide)
    (he : starEach (e :: es) X.env = (false, eval e X.env) :: starEach es X.env := by rfl) (hpl : (backTo pos (starEach es X.env)).any (·.1) = false := by rfl) : DE κ W X R (.Call (.Name x p) (e :: es) [] pos) (xCall k fs) :=
  PE.weak (pe_callTy hc hg hm hv ha hn hdb he hpl) fun σ H Q h => tcb hk h
theorem rpr1 {g F H0 H} {R : RelE} {vs : List V} {ds : List D} (h : RpR g F H0 H [R] vs ds) : ∃ v d, vs = [v] ∧ ds = [d] ∧ R g F H0 H v d := by
  cases h with
  | cons h1 h2 => cases h2; exact ⟨_, _, rfl, rfl, h1⟩
theorem rpr2 {g F H0 H} {R R' : RelE} {vs : List V} {ds : List D} (h : RpR g F H0 H [R, R'] vs ds) : ∃ v v' d d', vs = [v, v'] ∧ ds = [d, d'] ∧ R g F H0 H v d ∧ R' g F H0 H v' d' := by
  cases h with
  | cons h1 h2 =>
    cases h2 with
    | cons h3 h4 => cases h4; exact ⟨_, _, _, _, rfl, rfl, h1, h3⟩
/-- lists of ints -/
def intsOf : List D → Option (List Int)
  | [] => some []
  | .int i :: r => (intsOf r).map (i :: ·)
  | _ => none
theorem intsOf_eq : ∀ {ds : List D} {ns : List Int}, intsOf ds = some ns → ds = dInts ns
  | [], _, h => by cases h; rfl
  | .int i :: r, ns, h => by
    unfold intsOf at h
    cases e : intsOf r with
    | none => rw [e] at h; cases h
    | some ms =>
      rw [e] at h
      cases h
      rw [intsOf_eq e]
      rfl
  | .none :: _, _, h => by cases h
  | .bool _ :: _, _, h => by cases h
  | .str _ :: _, _, h => by cases h
  | .list _ :: _, _, h => by cases h
  | .tuple _ :: _, _, h => by cases h
  | .dict _ :: _, _, h => by cases h
theorem intsOf_dInts : ∀ ns : List Int, intsOf (dInts ns) = some ns
  | [] => rfl
  | n :: ns => by
    show (intsOf (dInts ns)).map (n :: ·) = _
    rw [intsOf_dInts ns]
    rfl
def onInts {α : Type} (d : D) (f : List Int → M α) : M α := match d with
  | .list ds => match intsOf ds with
    | some ns => f ns
    | none => M.bad
  | _ => M.bad
theorem po_ints {g F H0 H w} {σ : L2.St} {d : D} {v : V} {α : Type} {f : List Int → M α} {Kk : KE α} (k : Wk κ g F w H) (hv : RV g F H0 H v d) (p : Po κ W g F H σ (onInts d f w) Kk) : ∃ a ns, v = .ref a ∧ d = .list (dInts ns) ∧ H a = some (.lst (ns.map V.int)) ∧ Po κ W g F H σ (f ns w) Kk := by
  cases d with
  | list ds =>
    unfold onInts at p
    dsimp only at p
    cases e : intsOf ds with
    | none => rw [e] at p; exact p.elim
    | some ns =>
      rw [e] at p
      have e2 := intsOf_eq e
      subst e2
      obtain ⟨a, vs, rfl, ha, ra⟩ := hv.list k
      rw [ra.ints] at ha
      exact ⟨a, ns, rfl, rfl, ha, p⟩
  | _ => exact p.elim
def maxI : List Int → Int
  | [] => 0
  | n :: ns => ns.foldl max n
def minI : List Int → Int
  | [] => 0
  | n :: ns => ns.foldl min n
theorem foldl_max_mem : ∀ (ns : List Int) (n : Int), ns.foldl max n ∈ n :: ns ∧ ∀ y ∈ n :: ns, y ≤ ns.foldl max n
  | [], n => ⟨by simp, by simp⟩
  | m :: ns, n => by
    obtain ⟨h1, h2⟩ := foldl_max_mem ns (max n m)
    rw [List.foldl_cons]
    refine ⟨?_, fun y hy => ?_⟩
    · rcases List.mem_cons.mp h1 with e | e
      · rw [e]
        by_cases q : n ≤ m
        · rw [Int.max_eq_right q]; simp
        · rw [Int.max_eq_left (by omega)]; simp
      · simp [e]
    · have h3 := h2 (max n m) (by simp)
      rcases List.mem_cons.mp hy with e | e
      · subst e; omega
      · rcases List.mem_cons.mp e with e | e
        · subst e; omega
        · exact h2 y (by simp [e])
theorem foldl_min_mem : ∀ (ns : List Int) (n : Int), ns.foldl min n ∈ n :: ns ∧ ∀ y ∈ n :: ns, ns.foldl min n ≤ y
  | [], n => ⟨by simp, by simp⟩
  | m :: ns, n => by
    obtain ⟨h1, h2⟩ := foldl_min_mem ns (min n m)
    rw [List.foldl_cons]
    refine ⟨?_, fun y hy => ?_⟩
    · rcases List.mem_cons.mp h1 with e | e
      · rw [e]
        by_cases q : n ≤ m
        · rw [Int.min_eq_left q]; simp
        · rw [Int.min_eq_right (by omega)]; simp
      · simp [e]
    · have h3 := h2 (min n m) (by simp)
      rcases List.mem_cons.mp hy with e | e
      · subst e; omega
      · rcases List.mem_cons.mp e with e | e
        · subst e; omega
        · exact h2 y (by simp [e])
theorem maxI_of {ns : List Int} (h : 0 < ns.length) : maxI ns ∈ ns ∧ ∀ y ∈ ns, y ≤ maxI ns := by
  cases ns with
  | nil => simp at h
  | cons n r => exact foldl_max_mem r n
theorem minI_of {ns : List Int} (h : 0 < ns.length) : minI ns ∈ ns ∧ ∀ y ∈ ns, minI ns ≤ y := by
  cases ns with
  | nil => simp at h
  | cons n r => exact foldl_min_mem r n
def kMax : List D → M D
  | [d] => onInts d fun ns => chk (decide (0 < ns.length)) (M.pure (.int (maxI ns)))
  | _ => M.bad
def kMin : List D → M D
  | [d] => onInts d fun ns => chk (decide (0 < ns.length)) (M.pure (.int (minI ns)))
  | _ => M.bad
def kMax2 : List D → M D
  | [a, b] => kI (fun i j => .int (if j > i then j else i)) a b
  | _ => M.bad
def kMin2 : List D → M D
  | [a, b] => kI (fun i j => .int (if j < i then j else i)) a b
  | _ => M.bad
theorem k_max1 : OpA κ W [RV] RD (rMax K) kMax := fun g F w H0 H σ vs ds Q k hv p => by
  obtain ⟨v, d, rfl, rfl, h1⟩ := rpr1 hv; clear hv; have hv := h1; clear h1
  obtain ⟨a, ns, rfl, rfl, ha, p⟩ := po_ints k hv p
  obtain ⟨c, p⟩ := po_chk p
  have h0 : 0 < ns.length := of_decide_eq_true c
  refine ⟨a, ns, rfl, SqL.of ha, h0, fun m h1 h2 => ?_⟩
  obtain ⟨q1, q2⟩ := maxI_of h0
  have e : m = maxI ns := by have := q2 m h1; have := h2 _ q1; omega
  rw [e]
  exact po_fz p k (.int _)
theorem k_min1 : OpA κ W [RV] RD (rMin K) kMin := fun g F w H0 H σ vs ds Q k hv p => by
  obtain ⟨v, d, rfl, rfl, h1⟩ := rpr1 hv; clear hv; have hv := h1; clear h1
  obtain ⟨a, ns, rfl, rfl, ha, p⟩ := po_ints k hv p
  obtain ⟨c, p⟩ := po_chk p
  have h0 : 0 < ns.length := of_decide_eq_true c
  refine ⟨a, ns, rfl, SqL.of ha, h0, fun m h1 h2 => ?_⟩
  obtain ⟨q1, q2⟩ := minI_of h0
  have e : m = minI ns := by have := q2 m h1; have := h2 _ q1; omega
  rw [e]
  exact po_fz p k (.int _)
theorem k_max2 : OpA κ W [RV, RV] RD (fun xs H Q => ∃ i j, xs = [.int i, .int j] ∧ Q (.int (if j > i then j else i)) H) kMax2 := fun g F w H0 H σ vs ds Q k hv p => by
  obtain ⟨v, v', d, d', rfl, rfl, h1, h2⟩ := rpr2 hv
  cases d with
  | int i =>
    cases d' with
    | int j => rw [h1.int, h2.int]; exact ⟨i, j, rfl, po_fz p k (.int _)⟩
    | _ => exact p.elim
  | _ => exact p.elim
theorem k_min2 : OpA κ W [RV, RV] RD (fun xs H Q => ∃ i j, xs = [.int i, .int j] ∧ Q (.int (if j < i then j else i)) H) kMin2 := fun g F w H0 H σ vs ds Q k hv p => by
  obtain ⟨v, v', d, d', rfl, rfl, h1, h2⟩ := rpr2 hv
  cases d with
  | int i =>
    cases d' with
    | int j => rw [h1.int, h2.int]; exact ⟨i, j, rfl, po_fz p k (.int _)⟩
    | _ => exact p.elim
  | _ => exact p.elim
/-- ints in a list or a tuple -/
def onSeq {α : Type} (d : D) (f : List Int → M α) : M α := match d with
  | .tuple ds => match intsOf ds with
    | some ns => f ns
    | none => M.bad
  | d => onInts d f
theorem po_seq {g F H0 H w} {σ : L2.St} {d : D} {v : V} {α : Type} {f : List Int → M α} {Kk : KE α} (k : Wk κ g F w H) (hv : RV g F H0 H v d) (p : Po κ W g F H σ (onSeq d f w) Kk) : ∃ a ns, v = .ref a ∧ (SqL K H a (ns.map V.int) ∨ SqT K H a (ns.map V.int)) ∧ Po κ W g F H σ (f ns w) Kk := by
  cases d with
  | tuple ds =>
    unfold onSeq at p
    dsimp only at p
    cases e : intsOf ds with
    | none => rw [e] at p; exact p.elim
    | some ns =>
      rw [e] at p
      have e2 := intsOf_eq e
      subst e2
      obtain ⟨a, vs, rfl, _, ha, ra⟩ := hv.tup k
      rw [ra.ints] at ha
      exact ⟨a, ns, rfl, .inr (SqT.of ha), p⟩
  | list ds =>
    obtain ⟨a, ns, e, _, ha, p⟩ := po_ints k hv (show Po κ W g F H σ (onInts (.list ds) f w) Kk from p)
    exact ⟨a, ns, e, .inl (SqL.of ha), p⟩
  | _ => exact p.elim
def kSum : List D → M D
  | [d] => onSeq d fun ns => M.pure (.int ns.sum)
  | _ => M.bad
def rSumA (K : PySem.W.Frag) : List V → Hp → VK → Prop := fun vs H Q => ∃ (a : Addr) (ns : List Int), vs = [V.ref a] ∧ (SqL K H a (ns.map V.int) ∨ SqT K H a (ns.map V.int)) ∧ Q (.int ns.sum) H
theorem k_sum : OpA κ W [RV] RD (rSumA K) kSum := fun g F w H0 H σ vs ds Q k hv p => by
  obtain ⟨v, d, rfl, rfl, h1⟩ := rpr1 hv; clear hv; have hv := h1; clear h1
  obtain ⟨a, ns, rfl, ha, p⟩ := po_seq (K := K) k hv p
  exact ⟨a, ns, rfl, ha, po_fz p k (.int _)⟩
/-- sorted ints -/
def insI (x : Int) : List Int → List Int
  | [] => [x]
  | y :: r => if x ≤ y then x :: y :: r else y :: insI x r
def sortI : List Int → List Int
  | [] => []
  | x :: r => insI x (sortI r)
theorem insI_perm (x : Int) : ∀ l, (insI x l).Perm (x :: l)
  | [] => List.Perm.refl _
  | y :: r => by
    unfold insI
    split
    · exact List.Perm.refl _
    · exact ((insI_perm x r).cons y).trans (List.Perm.swap x y r)
theorem sortI_perm : ∀ l, (sortI l).Perm l
  | [] => List.Perm.refl _
  | x :: r => (insI_perm x _).trans ((sortI_perm r).cons x)
theorem insI_sorted (x : Int) : ∀ l, l.Pairwise (· ≤ ·) → (insI x l).Pairwise (· ≤ ·)
  | [], _ => by simp [insI]
  | y :: r, h => by
    unfold insI
    obtain ⟨h1, h2⟩ := List.pairwise_cons.mp h
    split
    · rename_i q
      refine List.pairwise_cons.mpr ⟨fun z hz => ?_, h⟩
      rcases List.mem_cons.mp hz with e | e
      · rw [e]; exact q
      · have := h1 z e; omega
    · rename_i q
      refine List.pairwise_cons.mpr ⟨fun z hz => ?_, insI_sorted x r h2⟩
      rcases List.mem_cons.mp ((insI_perm x r).mem_iff.mp hz) with e | e
      · rw [e]; omega
      · exact h1 z e
theorem sortI_sorted : ∀ l, (sortI l).Pairwise (· ≤ ·)
  | [] => List.Pairwise.nil
  | x :: r => insI_sorted x _ (sortI_sorted r)
theorem sorted_uniq : ∀ {a b : List Int}, a.Perm b → a.Pairwise (· ≤ ·) → b.Pairwise (· ≤ ·) → a = b
  | [], b, p, _, _ => (List.nil_perm.mp p).symm
  | x :: a, b, p, ha, hb => by
    cases b with
    | nil => exact absurd (List.perm_nil.mp p) (by simp)
    | cons y b =>
      obtain ⟨a1, a2⟩ := List.pairwise_cons.mp ha
      obtain ⟨b1, b2⟩ := List.pairwise_cons.mp hb
      have e : x = y := by
        have h1 : x ∈ y :: b := p.mem_iff.mp (by simp)
        have h2 : y ∈ x :: a := p.mem_iff.mpr (by simp)
        rcases List.mem_cons.mp h1 with e | e
        · exact e
        · rcases List.mem_cons.mp h2 with q | q
          · exact q.symm
          · have := a1 y q; have := b1 x e; omega
      subst e
      rw [sorted_uniq (List.Perm.cons_inv p) a2 b2]
def kSortI : List D → M D
  | [d] => onSeq d fun ns => chk (decide (ns.length < 64)) (M.pure (.list (dInts (sortI ns))))
  | _ => M.bad
def rSortA (K : PySem.W.Frag) : List V → Hp → VK → Prop := fun vs H Q => ∃ (a : Addr) (ns : List Int), vs = [V.ref a] ∧ (SqL K H a (ns.map V.int) ∨ SqT K H a (ns.map V.int)) ∧ ns.length < 64 ∧
  ∀ (ns' : List Int) (p : Addr), ns'.Perm ns → ns'.Pairwise (· ≤ ·) → H p = none → Q (.ref p) (upd H p (.lst (ns'.map V.int)))
theorem k_sortI [MkL R] : OpA κ W [RV] R (rSortA K) kSortI := fun g F w H0 H σ vs ds Q k hv p => by
  obtain ⟨v, d, rfl, rfl, h1⟩ := rpr1 hv; clear hv; have hv := h1; clear h1
  obtain ⟨a, ns, rfl, ha, p⟩ := po_seq (K := K) k hv p
  obtain ⟨c, p⟩ := po_chk p
  refine ⟨a, ns, rfl, ha, of_decide_eq_true c, fun ns' q hp hs hq => ?_⟩
  have e : ns' = sortI ns := sorted_uniq (hp.trans (sortI_perm ns).symm) hs (sortI_sorted ns)
  subst e
  exact po_list p k hq (RpL.of_ints _)
def kLen : List D → M D
  | [.list ds] => M.pure (.int (ds.length : Nat))
  | [.tuple ds] => M.pure (.int (ds.length : Nat))
  | [.str z] => chk (szOk z.length) (M.pure (.int (z.length : Nat)))
  | _ => M.bad
theorem k_len : OpA κ W [RV] RD (fun xs H Q => ∃ x n, xs = [x] ∧ LenV K x H n ∧ Q (.int n) H) kLen := fun g F w H0 H σ vs ds Q k hv p => by
  obtain ⟨v, d, rfl, rfl, h1⟩ := rpr1 hv; clear hv; have hv := h1; clear h1
  cases d with
  | list ds =>
    obtain ⟨a, vs, rfl, ha, ra⟩ := hv.list k
    refine ⟨_, ds.length, rfl, .inl ⟨vs, SqL.of ha, ra.length.symm⟩, po_fz p k (.int _)⟩
  | tuple ds =>
    obtain ⟨a, vs, rfl, _, ha, ra⟩ := hv.tup k
    refine ⟨_, ds.length, rfl, .inr ⟨vs, SqT.of ha, ra.length.symm⟩, po_fz p k (.int _)⟩
  | str z =>
    obtain ⟨c, p⟩ := po_chk p
    rw [hv.str]
    exact ⟨_, z.length, rfl, ⟨of_decide_eq_true c, rfl⟩, po_fz p k (.int _)⟩
  | _ => exact p.elim
def kList : List D → M D
  | [.list ds] => M.pure (.list ds)
  | [.tuple ds] => M.pure (.list ds)
  | _ => M.bad
theorem k_list [MkL R] : OpA κ W [RV] R (fun xs H Q => ∃ p ys, xs = [.ref p] ∧ (SqL K H p ys ∨ SqT K H p ys) ∧ ∀ l, H l = none → Q (.ref l) (upd H l (.lst ys))) kList := fun g F w H0 H σ vs ds Q k hv p => by
  obtain ⟨v, d, rfl, rfl, h1⟩ := rpr1 hv; clear hv; have hv := h1; clear h1
  cases d with
  | list ds =>
    obtain ⟨a, vs, rfl, ha, ra⟩ := hv.list k
    exact ⟨a, vs, rfl, .inl (SqL.of ha), fun q hq => po_list p k hq ra⟩
  | tuple ds =>
    obtain ⟨a, vs, rfl, _, ha, ra⟩ := hv.tup k
    exact ⟨a, vs, rfl, .inr (SqT.of ha), fun q hq => po_list p k hq ra⟩
  | _ => exact p.elim
def kTuple : List D → M D
  | [.list ds] => M.pure (.tuple ds)
  | [.tuple ds] => M.pure (.tuple ds)
  | _ => M.bad
theorem k_tuple [Fz R] : OpA κ W [RV] R (fun xs H Q => ∃ p ys, xs = [.ref p] ∧ ((SqL K H p ys ∧ ∀ l, H l = none → Q (.ref l) (upd H l (.tup ys))) ∨ (SqT K H p ys ∧ Q (.ref p) H))) kTuple := fun g F w H0 H σ vs ds Q k hv p => by
  obtain ⟨v, d, rfl, rfl, h1⟩ := rpr1 hv; clear hv; have hv := h1; clear h1
  cases d with
  | list ds =>
    obtain ⟨a, vs, rfl, ha, ra⟩ := hv.list k
    exact ⟨a, vs, rfl, .inl ⟨SqL.of ha, fun q hq => po_tup p k hq ra⟩⟩
  | tuple ds =>
    obtain ⟨a, vs, rfl, hF, ha, ra⟩ := hv.tup k
    exact ⟨a, vs, rfl, .inr ⟨SqT.of ha, po_fz p k (.tup hF ra)⟩⟩
  | _ => exact p.elim
def blsOf : List D → Option (List Bool)
  | [] => some []
  | .bool i :: r => (blsOf r).map (i :: ·)
  | _ => none
theorem blsOf_eq : ∀ {ds : List D} {ns : List Bool}, blsOf ds = some ns → ds = dBls ns
  | [], _, h => by cases h; rfl
  | .bool i :: r, ns, h => by
    unfold blsOf at h
    cases e : blsOf r with
    | none => rw [e] at h; cases h
    | some ms =>
      rw [e] at h
      cases h
      rw [blsOf_eq e]
      rfl
  | .none :: _, _, h => by cases h
  | .int _ :: _, _, h => by cases h
  | .str _ :: _, _, h => by cases h
  | .list _ :: _, _, h => by cases h
  | .tuple _ :: _, _, h => by cases h
  | .dict _ :: _, _, h => by cases h
theorem blsOf_dBls : ∀ ns : List Bool, blsOf (dBls ns) = some ns
  | [] => rfl
  | n :: ns => by
    show (blsOf (dBls ns)).map (n :: ·) = _
    rw [blsOf_dBls ns]
    rfl
def kAll : List D → M D
  | [.list ds] => match blsOf ds with
    | some bs => M.pure (.bool (bs.all id))
    | none => M.bad
  | _ => M.bad
theorem k_all : OpA κ W [RV] RD (rAll K) kAll := fun g F w H0 H σ vs ds Q k hv p => by
  obtain ⟨v, d, rfl, rfl, h1⟩ := rpr1 hv; clear hv; have hv := h1; clear h1
  cases d with
  | list ds =>
    unfold kAll at p
    dsimp only at p
    cases e : blsOf ds with
    | none => rw [e] at p; exact p.elim
    | some bs =>
      rw [e] at p
      have e2 := blsOf_eq e
      subst e2
      obtain ⟨a, vs, rfl, ha, ra⟩ := hv.list k
      rw [ra.bls] at ha
      exact ⟨a, bs, rfl, SqL.of ha, po_fz p k (.bl _)⟩
  | _ => exact p.elim
def kAbs : List D → M D
  | [.int i] => M.pure (.int (if i < 0 then -i else i))
  | _ => M.bad
theorem k_abs : OpA κ W [RV] RD (fun xs H Q => ∃ i, xs = [.int i] ∧ Q (.int (if i < 0 then -i else i)) H) kAbs := fun g F w H0 H σ vs ds Q k hv p => by
  obtain ⟨v, d, rfl, rfl, h1⟩ := rpr1 hv; clear hv; have hv := h1; clear h1
  cases d with
  | int i => rw [hv.int]; exact ⟨i, rfl, po_fz p k (.int _)⟩
  | _ => exact p.elim
def kStr : List D → M D
  | [.int i] => chk (decide (i.natAbs.log2 < 1920)) (M.pure (.str (toString i)))
  | _ => M.bad
theorem k_str : OpA κ W [RV] RD (fun xs H Q => ∃ i, xs = [.int i] ∧ i.natAbs.log2 < 1920 ∧ Q (.str (toString i)) H) kStr := fun g F w H0 H σ vs ds Q k hv p => by
  obtain ⟨v, d, rfl, rfl, h1⟩ := rpr1 hv; clear hv; have hv := h1; clear h1
  cases d with
  | int i =>
    obtain ⟨c, p⟩ := po_chk p
    rw [hv.int]; exact ⟨i, rfl, of_decide_eq_true c, po_fz p k (.str _)⟩
  | _ => exact p.elim
def kInt : List D → M D
  | [.str z] => match PySem.intText? z with
    | some n => chk (decide (z.length ≤ 640)) (M.pure (.int n))
    | none => M.bad
  | _ => M.bad
theorem k_int : OpA κ W [RV] RD (fun xs H Q => ∃ a n, xs = [.str a] ∧ PySem.intText? a = some n ∧ a.length ≤ 640 ∧ Q (.int n) H) kInt := fun g F w H0 H σ vs ds Q k hv p => by
  obtain ⟨v, d, rfl, rfl, h1⟩ := rpr1 hv; clear hv; have hv := h1; clear h1
  cases d with
  | str z =>
    unfold kInt at p
    dsimp only at p
    cases e : PySem.intText? z with
    | none => rw [e] at p; exact p.elim
    | some n =>
      rw [e] at p
      obtain ⟨c, p⟩ := po_chk p
      rw [hv.str]; exact ⟨z, n, rfl, e, of_decide_eq_true c, po_fz p k (.int _)⟩
  | _ => exact p.elim
/-- isinstance with a built-in class -/
def tyN : D → String
  | .none => "NoneType"
  | .bool _ => "bool"
  | .int _ => "int"
  | .str _ => "str"
  | .list _ => "list"
  | .tuple _ => "tuple"
  | .dict _ => "?"
def isi (T : String) (d : D) : Bool := tyN d == T || (tyN d == "bool" && T == "int")
def kIsi (T : String) : D → M D
  | .dict _ => M.bad
  | d => M.pure (.bool (isi T d))
def IsiOk (T : String) : Prop := ∀ n ∈ ["NoneType", "bool", "int", "str", "list", "tuple"], kitB n T = some (n == T || (n == "bool" && T == "int"))
theorem isiok_int : IsiOk "int" := by unfold IsiOk; decide +kernel
theorem isiok_bool : IsiOk "bool" := by unfold IsiOk; decide +kernel
theorem isiok_list : IsiOk "list" := by unfold IsiOk; decide +kernel
theorem isiok_tuple : IsiOk "tuple" := by unfold IsiOk; decide +kernel
theorem isiok_str : IsiOk "str" := by unfold IsiOk; decide +kernel
theorem ty_of {κ : Kn} {g F H0 H v w} {d : D} (k : Wk κ g F w H) (h : RV g F H0 H v d) (hd : tyN d ≠ "?") : TyOf K H v (.type (tyN d)) := by
  rcases h with h | ⟨a, vs, ds, rfl, rfl, _, h4, _⟩
  · cases h with
    | non => exact .non
    | bl b => exact .bl b
    | int i => exact .int i
    | str x => exact .str x
    | lst h _ => exact .lst (k.FH _ _ h)
    | tup h _ => exact .tup (k.FH _ _ h)
    | hn _ => exact absurd rfl hd
    | exc _ => exact absurd rfl hd
  · exact .lst h4
theorem de_isi {T : String} {a : Expr} {fa : DL.X D} {x : Str} {p p2 : Pos} (ok : IsiOk T) (ha : DE κ W X RV a fa) (hg : Gl X "isinstance") (hm : X.mg "isinstance" = none) (hgT : Gl X x) (hmT : X.mg x = none) (hvT : bootBuiltins x = some (.type T)) (hn : x ≠ "__name__" := by decide) (hdT : (x == ("__debug__" : Str)) = false := by decide)
    (he : starEach [a, .Name x p2] X.env = (false, eval a X.env) :: starEach [.Name x p2] X.env := by rfl) (hpl : (backTo pos (starEach [.Name x p2] X.env)).any (·.1) = false := by rfl) (hb : bootBuiltins "isinstance" = some (.builtin "isinstance") := by decide +kernel) : DE κ W X RD (.Call (.Name "isinstance" p) [a, .Name x p2] [] pos) (x1 (kIsi T) fa) :=
  PE.weak (pe_callB call_isi hg hm hb (pa_cons ha (pa_cons (pe_bltn (v := .ty T) hgT hmT hvT rfl hn hdT) pa_nil) he) (by decide) (by decide) he hpl) fun σ H Q ⟨g, F, own, ρ, w, lr, p⟩ => by
    refine ⟨g, F, own, ρ, w, lr, (po_bind p).mono fun d g1 F1 w1 H1 e1 k1 p1 v hv => ?_⟩
    have p2 := p1 e1
    have go : ∀ (hd : tyN d ≠ "?") (hm : tyN d ∈ ["NoneType", "bool", "int", "str", "list", "tuple"]) (p3 : Po κ W g1 F1 H1 σ (.ok (.bool (isi T d)) w1) fun d g' F' _ H' => ∀ v, RD g' F' H H' v d → Q v H'), rIsi X.K [v, .ty T] H1 Q := fun hd hm p3 =>
      ⟨v, .ty T, _, _, _, rfl, .ty T, .base (ty_of k1 hv hd), kit_ty (ok _ hm), p3 g1 F1 H1 (Ext.refl g1 F1 H1) k1 _ (.bl _)⟩
    cases d with
    | dict _ => exact p2.elim
    | _ => exact go (by simp [tyN]) (by simp [tyN]) p2

/-! ### list(range(..)), tuple(range(..)) -/
def rgD (n : Int) : List D := dInts ((List.range n.toNat).map fun (i : Nat) => (i : Int))
def cRg (n : Int) : Bool := decide (-(2 ^ 62) ≤ n) && decide (n ≤ 16777216)
def kLstRg : D → M D
  | .int n => chk (cRg n) (M.pure (.list (rgD n)))
  | _ => M.bad
def kTupRg : D → M D
  | .int n => chk (cRg n) (M.pure (.tuple (rgD n)))
  | _ => M.bad
theorem rg_rel {g F} (n : Int) : RpL g F (rgV 0 n) (rgD n) := by
  unfold rgV rgD
  rw [Int.sub_zero]
  have e : ((List.range n.toNat).map fun i => V.int (0 + (i : Nat))) = ((List.range n.toNat).map fun (i : Nat) => (i : Int)).map V.int := by
    rw [List.map_map]
    refine List.map_congr_left fun i _ => ?_
    show V.int (0 + (i : Int)) = V.int i
    rw [Int.zero_add]
  rw [e]
  exact RpL.of_ints _
theorem de_listRg [MkL R] {a : Expr} {fa : DL.X D} {p p2 p3 : Pos} (hc : X.calm = true) (hg : Gl X "list") (hm : X.mg "list" = none) (hg2 : Gl X "range") (hm2 : X.mg "range" = none) (ha : DE κ W X RV a fa)
    (na : starEach [a] X.env = (false, eval a X.env) :: starEach [] X.env := by rfl) (nb : starEach [.Call (.Name "range" p2) [a] [] p3] X.env = (false, eval (.Call (.Name "range" p2) [a] [] p3) X.env) :: starEach [] X.env := by rfl) :
    DE κ W X R (.Call (.Name "list" p) [.Call (.Name "range" p2) [a] [] p3] [] pos) (x1 kLstRg fa) :=
  PE.weak (pe_listRg hc hg hm (prg_1 hg2 hm2 ha na) nb) fun σ H Q ⟨g, F, own, ρ, w, lr, p⟩ => by
    refine ⟨g, F, own, ρ, w, lr, (po_bind p).mono fun d g1 F1 w1 H1 e1 k1 p1 v hv => ?_⟩
    have p2 := p1 e1
    cases d with
    | int n =>
      obtain ⟨c, p2⟩ := po_chk p2
      unfold cRg at c
      simp only [Bool.and_eq_true, decide_eq_true_eq] at c
      exact ⟨n, hv.int, ⟨by omega, by omega, by omega, by omega, by omega⟩, fun q hq => po_list (R := R) (p2.mono fun d g' F' w' H' e k q v hv => q v (Stable.back hv fun a z => e1.there a z)) k1 hq (rg_rel n)⟩
    | _ => exact p2.elim
theorem de_tupRg {a : Expr} {fa : DL.X D} {p p2 p3 : Pos} (hc : X.calm = true) (hg : Gl X "tuple") (hm : X.mg "tuple" = none) (hg2 : Gl X "range") (hm2 : X.mg "range" = none) (ha : DE κ W X RV a fa)
    (na : starEach [a] X.env = (false, eval a X.env) :: starEach [] X.env := by rfl) (nb : starEach [.Call (.Name "range" p2) [a] [] p3] X.env = (false, eval (.Call (.Name "range" p2) [a] [] p3) X.env) :: starEach [] X.env := by rfl) :
    DE κ W X RD (.Call (.Name "tuple" p) [.Call (.Name "range" p2) [a] [] p3] [] pos) (x1 kTupRg fa) :=
  PE.weak (pe_tupRg hc hg hm (prg_1 hg2 hm2 ha na) nb) fun σ H Q ⟨g, F, own, ρ, w, lr, p⟩ => by
    refine ⟨g, F, own, ρ, w, lr, (po_bind p).mono fun d g1 F1 w1 H1 e1 k1 p1 v hv => ?_⟩
    have p2 := p1 e1
    cases d with
    | int n =>
      obtain ⟨c, p2⟩ := po_chk p2
      unfold cRg at c
      simp only [Bool.and_eq_true, decide_eq_true_eq] at c
      exact ⟨n, hv.int, ⟨by omega, by omega, by omega, by omega, by omega⟩, fun q hq => po_tup (R := RD) p2 k1 hq (rg_rel n)⟩
    | _ => exact p2.elim

/-! ### methods of built-in types -/
/-- o.m(e, ..) that reads -/
def OpM (κ : Kn) (W : WX) (K : PySem.W.Frag) (Rs : List RelE) (R : RelE) (T : String) (r : V → List V → Hp → VK → Prop) (k : D → List D → M D) : Prop :=
  (∀ (g : List Addr) (F : Hp) (w : W') (H0 H : Hp) (v : V) (d : D), Wk κ g F w H → RV g F H0 H v d → tyN d = T → tyV K T v H) ∧
  ∀ (g : List Addr) (F : Hp) (w : W') (H0 H1 H : Hp) (σ : L2.St) (v : V) (d : D) (vs : List V) (ds : List D) (Q : VK), Wk κ g F w H → RV g F H0 H v d → tyN d = T → RpR g F H1 H Rs vs ds →
    Po κ W g F H σ (k d ds w) (fun d g' F' _ H' => ∀ v, R g' F' H H' v d → Q v H') → r v vs H Q
def xMeth (T : String) (k : D → List D → M D) (fo : DL.X D) (fs : DL.X (List D)) : DL.X D := fun ρ => M.bind (fo ρ) fun o => chk (tyN o == T) (M.bind (fs ρ) fun ds => k o ds)
theorem de_meth [Stable R] {o e : Expr} {fo : DL.X D} {name : Str} {apos cpos : Pos} {T id : String} {r : V → List V → Hp → VK → Prop} {k : D → List D → M D} (hk : OpM κ W X.K Rs R T r k) (pa : PlainAttrs T) (slot : PySem.Slot T name id) (hty : typeOf (.builtin id) = pure (.type "method_descriptor")) (hm : MtR X id r) (ho : DE κ W X RV o fo) (ha : DA κ W X Rs (e :: es) fs)
    (hbase : attributeBase o name X.env (eval o X.env) = eval o X.env := by rfl)
    (hfew : ((backTo cpos (starEach (e :: es) X.env)).all (fun x => !x.1) && (backToKw cpos (keywordEach [] X.env)).all (fun x => x.1.isSome)
      && decide ((e :: es).length + ([] : List Keyword).length + (if ([] : List Keyword).isEmpty then 0 else 1) < 30)) = true := by rfl)
    (hline : (apos.endLine == cpos.line) = true := by rfl) (hs : starEach (e :: es) X.env = (false, eval e X.env) :: starEach es X.env := by rfl) (hplain : (backTo cpos (starEach es X.env)).any (·.1) = false := by rfl) :
    DE κ W X R (.Call (.Attribute o name apos) (e :: es) [] cpos) (xMeth T k fo fs) :=
  PE.weak (pe_bm pa slot hty hm ho ha hbase hfew hline hs hplain) fun σ H Q ⟨g, F, own, ρ, w, lr, p⟩ => by
    refine ⟨g, F, own, ρ, w, lr, (po_bind p).mono fun d g1 F1 w1 H1 e1 k1 p1 v hv => ?_⟩
    obtain ⟨c, p2⟩ := po_chk (p1 e1)
    have c' : tyN d = T := beq_iff_eq.mp c
    refine ⟨hk.1 g1 F1 w1 H H1 v d k1 hv c', g1, F1, own, ρ, w1, lr.ext e1 k1, (po_bind p2).mono fun ds g2 F2 w2 H2 e2 k2 p3 vs hvs => ?_⟩
    exact hk.2 g2 F2 w2 H H1 H2 σ v d vs ds Q k2 (Stable.ext hv e2) c' hvs ((p3 e2).mono fun d g3 F3 w3 H3 e3 k3 q v hv => q v (Stable.back hv fun a z => e1.there a (e2.there a z)))
theorem tyv_list {g F w H0 H v} {d : D} (k : Wk κ g F w H) (h : RV g F H0 H v d) (e : tyN d = "list") : tyV K "list" v H := by
  cases d with
  | list ds =>
    obtain ⟨a, vs, rfl, ha, ra⟩ := h.list k
    exact .inl ⟨rfl, vs, SqL.of ha⟩
  | _ => exact absurd e (by simp [tyN])
theorem tyv_str {g F w H0 H v} {d : D} (k : Wk κ g F w H) (h : RV g F H0 H v d) (e : tyN d = "str") : tyV K "str" v H := by
  cases d with
  | str ds => rw [h.str]; rfl
  | _ => exact absurd e (by simp [tyN])
/-- xs.index(x) -/
def ixD (x : D) : List D → Nat → Option Nat
  | [], _ => none
  | z :: r, n => if PyData.eqv z x then some n else ixD x r (n + 1)
theorem ixD_some : ∀ {ds : List D} {x : D} {n j : Nat}, ixD x ds n = some j → ∃ z, n ≤ j ∧ ds[j - n]? = some z ∧ PyData.eqv z x = true ∧ ∀ (m : Nat) (z' : D), m < j - n → ds[m]? = some z' → PyData.eqv z' x = false
  | [], _, _, _, h => by cases h
  | z :: r, x, n, j, h => by
    unfold ixD at h
    by_cases e : PyData.eqv z x = true
    · rw [if_pos e] at h
      cases h
      exact ⟨z, Nat.le_refl _, by rw [Nat.sub_self]; rfl, e, fun m z' hm => by omega⟩
    · rw [if_neg e] at h
      obtain ⟨y, h1, h2, h3, h4⟩ := ixD_some h
      have ej : j - n = (j - (n + 1)) + 1 := by omega
      refine ⟨y, by omega, by rw [ej]; simpa using h2, h3, fun m z' hm hz => ?_⟩
      cases m with
      | zero => simp at hz; subst hz; simpa using e
      | succ m => exact h4 m z' (by omega) (by simpa using hz)
def kIndex : D → List D → M D
  | .list ds, [x] => chk (SeqAt.shaped (.list ds) && SeqAt.shaped x) (match ixD x ds 0 with
    | some j => M.pure (.int (j : Nat))
    | none => M.bad)
  | _, _ => M.bad
theorem k_index : OpM κ W K [RV] RD "list" (rIndexD K) kIndex := ⟨fun g F w H0 H v d k h e => tyv_list k h e, fun g F w H0 H1 H σ v d vs ds Q k hv he hvs p => by
  obtain ⟨y, x, rfl, rfl, hx⟩ := rpr1 hvs
  cases d with
  | list ds =>
    obtain ⟨c, p⟩ := po_chk p
    rw [Bool.and_eq_true] at c
    cases e : ixD x ds 0 with
    | none => rw [e] at p; exact p.elim
    | some j =>
      rw [e] at p
      obtain ⟨z, _, h2, h3, h4⟩ := ixD_some e
      obtain ⟨a, us, rfl, ha, ra⟩ := hv.list k
      exact ⟨a, y, x, ds, j, z, rfl, rfl, (hv.dp k (shaped_lay c.1)), hx.dp k (shaped_lay c.2), c.1, c.2, by simpa using h2, h3, fun m z' hm hz => h4 m z' (by omega) hz, po_fz p k (.int _)⟩
  | _ => exact p.elim⟩
def kCount : D → List D → M D
  | d, [.int i] => onInts d fun ns => M.pure (.int (ns.count i : Nat))
  | _, _ => M.bad
theorem k_count : OpM κ W K [RV] RD "list" (rCntI K) kCount := ⟨fun g F w H0 H v d k h e => tyv_list k h e, fun g F w H0 H1 H σ v d vs ds Q k hv he hvs p => by
  obtain ⟨y, x, rfl, rfl, hx⟩ := rpr1 hvs
  cases x with
  | int i =>
    obtain ⟨a, ns, rfl, rfl, ha, p⟩ := po_ints k hv p
    rw [hx.int]
    exact ⟨a, ns, i, rfl, rfl, SqL.of ha, po_fz p k (.int _)⟩
  | _ => exact p.elim⟩

/-! ### calls of defs -/
/-- what a def whose mirror is m promises -/
def spD (κ : Kn) (n : Nat) (m : List D → M D) : Sp := fun vs H Q E => ∃ g F w ds, Wk κ g F w H ∧ RpL g F vs ds ∧ ds.length = n ∧ Po κ (fun c d _ H => E c d H) g F H [] (m ds w) fun d g' F' _ H' => ∀ v, Rp g' F' v d → Q v H'
theorem po_W {g F H σ} {α : Type} {r : Res α} {Kk : KE α} (p : Po κ W g F H σ r Kk) : Po κ (fun c d _ H => WE W σ c d H) g F H [] r Kk := by
  cases r with
  | ok a w => exact p
  | err c w => exact p
  | bad => exact p
theorem de_call [AllD Rs] {x : Str} {p : Pos} {e : Expr} {k n : Nat} {f : Addr} {fd : FuncData} {ps : List Str} {m : List D → M D} (F : FnOk X.prog X.w X.K X.mg X.base (L2.CX X.prog X.w) k f fd ps (spD κ n m)) (hr : Room k X.A) (tk : Takes X W) (hg : Gl X x) (hm : X.mg x = some (.ref f)) (hk : PySem.W.keepIn X.K (.ref f) = true) (hb : Binds X.K fd ps [])
    (ha : DA κ W X Rs (e :: es) fs) (hn : Rs.length = n := by rfl) (hdb : (x == ("__debug__" : Str)) = false := by decide) (he : starEach (e :: es) X.env = (false, eval e X.env) :: starEach es X.env := by rfl) (hpl : (backTo pos (starEach es X.env)).any (·.1) = false := by rfl) :
    DE κ W X RD (.Call (.Name x p) (e :: es) [] pos) (xCall m fs) :=
  PE.weak (pe_callS F hr hg hm hk hb (fun σ => passAt tk σ) ha hdb he hpl) fun σ H Q ⟨g, F, own, ρ, w, lr, p⟩ => by
    refine ⟨g, F, own, ρ, w, lr, (po_bind p).mono fun ds g1 F1 w1 H1 e1 k1 p1 vs hv => ?_⟩
    exact ⟨g1, F1, w1, ds, k1, AllD.to hv, by rw [← (AllD.to hv).length, AllD.n hv]; exact hn, po_W (p1 e1)⟩
theorem de_call0 {x : Str} {p : Pos} {k : Nat} {f : Addr} {fd : FuncData} {ps : List Str} {m : List D → M D} (F : FnOk X.prog X.w X.K X.mg X.base (L2.CX X.prog X.w) k f fd ps (spD κ 0 m)) (hr : Room k X.A) (tk : Takes X W) (hg : Gl X x) (hm : X.mg x = some (.ref f)) (hk : PySem.W.keepIn X.K (.ref f) = true) (hb : Binds X.K fd ps [])
    (hdb : (x == ("__debug__" : Str)) = false := by decide) : DE κ W X RD (.Call (.Name x p) [] [] pos) (fun _ => m []) := by
  refine ⟨fun pins s σ H Q I ⟨g, F', own, ρ, w, lr, p⟩ => ?_⟩
  refine wpAny_Call_Name_kw (ld_glob I hg hm ?_ hdb)
  exact PySem.W.callWith_K0 I.kIn hk (run_fnS (E := WE W) (us := []) (vs := []) F hr hb (passAt tk σ) I .nil ⟨g, F', w, [], lr.wk, .nil, rfl, po_W p⟩)
end
end DL

/-! The data layer, 4: statements. -/
namespace DL
open PySem PySem.Spec PyProof.Rows L2
variable [Ec]

/-- what a statement's mirror hands back -/
inductive SR where
  | nx (ρ : List Slot) (w : W')
  | ret (d : D) (w : W')
  | bk (ρ : List Slot) (w : W')
  | ct (ρ : List Slot) (w : W')
  | err (c : Str) (ρ : List Slot) (w : W')
  | bad
abbrev Sm := List Slot → W' → SR
def Res.to {α : Type} (m : Res α) (ρ : List Slot) (k : α → W' → SR) : SR := match m with
  | .ok a w => k a w
  | .err c w => .err c ρ w
  | .bad => .bad

structure Sr (κ : Kn) (g0 : List Addr) (F0 H0 : Hp) (g : List Addr) (F : Hp) (own : Nat → Addr) (ρ : List Slot) (w : W') (σ : L2.St) (H : Hp) : Prop where
  lr : Lr κ g F own ρ w σ H
  ex : Ext g0 F0 H0 g F H
  ow : ∀ (i : Nat) s, ρ[i]? = some s → s.mine = true → H0 (own i) = none
def PoS (κ : Kn) (W : WX) (g0 : List Addr) (F0 H0 : Hp) (E : Ends) (r : SR) : Prop := match r with
  | .nx ρ w => ∀ g F own σ H, Sr κ g0 F0 H0 g F own ρ w σ H → E.nx σ H
  | .ret d w => ∀ g F H v, Ext g0 F0 H0 g F H → Wk κ g F w H → Rp g F v d → E.rt v H
  | .bk ρ w => ∀ g F own σ H, Sr κ g0 F0 H0 g F own ρ w σ H → E.bk σ H
  | .ct ρ w => ∀ g F own σ H, Sr κ g0 F0 H0 g F own ρ w σ H → E.ct σ H
  | .err c ρ w => ∀ g F own σ H, Sr κ g0 F0 H0 g F own ρ w σ H → W (.ref (κ.ec c)) none σ H
  | .bad => False
def tS (κ : Kn) (W : WX) (f : Sm) : TS := fun E σ H => ∃ g0 F0 H0 g F own ρ w, Sr κ g0 F0 H0 g F own ρ w σ H ∧ PoS κ W g0 F0 H0 E (f ρ w)
abbrev DS (κ : Kn) (W : WX) (X : Cx) (st : Stmt) (f : Sm) : Prop := PS X st (tS κ W f)
abbrev DSs (κ : Kn) (W : WX) (X : Cx) (sts : List Stmt) (f : Sm) : Prop := PSs X sts (tS κ W f)
theorem PS.weak {X : Cx} {st : Stmt} {t t' : TS} (h : PS X st t) (i : ∀ E σ H, t' E σ H → t E σ H) : PS X st t' := ⟨fun pins s σ H E I q => h.run pins s σ H E I (i E σ H q)⟩
theorem PSs.weak {X : Cx} {st : List Stmt} {t t' : TS} (h : PSs X st t) (i : ∀ E σ H, t' E σ H → t E σ H) : PSs X st t' := ⟨fun pins s σ H E I q => h.run pins s σ H E I (i E σ H q)⟩

section
variable {κ : Kn} {W : WX} {g0 g g' : List Addr} {F0 H0 F F' H H' : Hp} {w w' : W'} {own : Nat → Addr} {ρ : List Slot} {σ : L2.St} {E : Ends}
theorem Sr.ext (s : Sr κ g0 F0 H0 g F own ρ w σ H) (e : Ext g F H g' F' H') (k : Wk κ g' F' w' H') : Sr κ g0 F0 H0 g' F' own ρ w' σ H' := ⟨s.lr.ext e k, s.ex.trans e, s.ow⟩
theorem po_to {α : Type} {m : Res α} {k : α → W' → SR} (s : Sr κ g0 F0 H0 g F own ρ w σ H) (p : PoS κ W g0 F0 H0 E (m.to ρ k)) :
    Po κ W g F H σ m fun a g' F' w' H' => Ext g F H g' F' H' → PoS κ W g0 F0 H0 E (k a w') := by
  cases m with
  | ok a w1 => exact fun g' F' H' _ _ _ => p
  | err c w1 => exact fun g' F' H' e k => p g' F' own σ H' (s.ext e k)
  | bad => exact p
theorem get_set {α : Type} {l : List α} {i j : Nat} {a b : α} (h : (l.set i a)[j]? = some b) : (i = j ∧ b = a) ∨ (i ≠ j ∧ l[j]? = some b) := by
  by_cases e : i = j
  · subst e
    by_cases hi : i < l.length
    · rw [List.getElem?_set_self hi] at h; exact .inl ⟨rfl, (Option.some.inj h).symm⟩
    · rw [List.getElem?_eq_none (by simpa using hi)] at h; cases h
  · rw [List.getElem?_set_ne e] at h; exact .inr ⟨e, h⟩
theorem set_get {α : Type} {l : List α} {i j : Nat} {a b : α} (h : (l.set i a)[j]? = some b) (e : i = j) : j < l.length := by
  have := (List.getElem?_eq_some_iff.mp h).1
  simpa using this
theorem Lr.setD (r : Lr κ g F own ρ w σ H) {i : Nat} {v : V} {d : D} (h : Rp g F v d) : Lr κ g F own (ρ.set i (.d d)) w (σ.set i (some v)) H where
  wk := r.wk
  len := by rw [List.length_set, List.length_set]; exact r.len
  slots := fun j s e => by
    rcases get_set e with ⟨q, rfl⟩ | ⟨q, e'⟩
    · subst q
      have hi := set_get e rfl
      exact ⟨v, List.getElem?_set_self (by rw [← r.len]; exact hi), h⟩
    · have := r.slots j s e'
      rw [List.getElem?_set_ne q]
      exact this
  owns := fun a b xs ys h1 h2 m1 m2 h3 => by
    rcases get_set h1 with ⟨_, z⟩ | ⟨_, h1⟩
    · subst z; cases m1
    · rcases get_set h2 with ⟨_, z⟩ | ⟨_, h2⟩
      · subst z; cases m2
      · exact r.owns a b xs ys h1 h2 m1 m2 h3
theorem Sr.setD (s : Sr κ g0 F0 H0 g F own ρ w σ H) {i : Nat} {v : V} {d : D} (h : Rp g F v d) : Sr κ g0 F0 H0 g F own (ρ.set i (.d d)) w (σ.set i (some v)) H :=
  ⟨s.lr.setD h, s.ex, fun j xs e m => by
    rcases get_set e with ⟨_, z⟩ | ⟨_, e⟩
    · subst z; cases m
    · exact s.ow j xs e m⟩
theorem Lr.setU (r : Lr κ g F own ρ w σ H) {i : Nat} {o : Option V} : Lr κ g F own (ρ.set i .un) w (σ.set i o) H where
  wk := r.wk
  len := by rw [List.length_set, List.length_set]; exact r.len
  slots := fun j s e => by
    rcases get_set e with ⟨q, rfl⟩ | ⟨q, e'⟩
    · trivial
    · have := r.slots j s e'
      rw [List.getElem?_set_ne q]
      exact this
  owns := fun a b xs ys h1 h2 m1 m2 h3 => by
    rcases get_set h1 with ⟨_, z⟩ | ⟨_, h1⟩
    · subst z; cases m1
    · rcases get_set h2 with ⟨_, z⟩ | ⟨_, h2⟩
      · subst z; cases m2
      · exact r.owns a b xs ys h1 h2 m1 m2 h3
theorem Sr.setU (s : Sr κ g0 F0 H0 g F own ρ w σ H) {i : Nat} {o : Option V} : Sr κ g0 F0 H0 g F own (ρ.set i .un) w (σ.set i o) H :=
  ⟨s.lr.setU, s.ex, fun j xs e m => by
    rcases get_set e with ⟨_, z⟩ | ⟨_, e⟩
    · subst z; cases m
    · exact s.ow j xs e m⟩
/-- what is one's own already is not a new one -/
theorem Lr.not_new (r : Lr κ g F own ρ w σ H) {p : Addr} (hH : H p = none) (j : Nat) (t : Slot) (ej : ρ[j]? = some t) (m : t.mine = true) : own j ≠ p := fun z => by
  have q := r.slots j t ej
  cases t with
  | un => cases m
  | d x => cases m
  | own xs =>
    obtain ⟨_, _, _, us, h4, _⟩ := q
    rw [z, hH] at h4; cases h4
  | dc kvs =>
    obtain ⟨_, _, _, h4⟩ := q
    rw [z, hH] at h4; cases h4
/-- a list just made becomes one's own -/
theorem Sr.setO (s : Sr κ g0 F0 H0 g F own ρ w σ H) (e : Ext g F H g' F' H') (k : Wk κ g' F' w' H') {i : Nat} {v : V} {d : D} (h : RN g' F' H H' v d) : ∃ xs own', d = .list xs ∧ Sr κ g0 F0 H0 g' F' own' (ρ.set i (.own xs)) w' (σ.set i (some v)) H' := by
  obtain ⟨p, vs, xs, rfl, rfl, hH, hF, hg, hH', hr⟩ := h
  have s2 := s.ext e k
  have other : ∀ (j : Nat) t, ρ[j]? = some t → t.mine = true → own j ≠ p := s.lr.not_new hH
  refine ⟨xs, fun j => if j = i then p else own j, rfl, ⟨k, ?_, fun j t ej => ?_, fun a b ys zs h1 h2 m1 m2 h3 => ?_⟩, s2.ex, fun j ys ej m => ?_⟩
  · rw [List.length_set, List.length_set]; exact s.lr.len
  · rcases get_set ej with ⟨q, rfl⟩ | ⟨q, e'⟩
    · subst q
      have hi := set_get ej rfl
      refine ⟨?_, ?_, ?_, vs, ?_, hr⟩
      · rw [List.getElem?_set_self (by rw [← s.lr.len]; exact hi), if_pos rfl]
      · rw [if_pos rfl]; exact hF
      · rw [if_pos rfl]; exact hg
      · rw [if_pos rfl]; exact hH'
    · have := s2.lr.slots j t e'
      rw [List.getElem?_set_ne q, if_neg (Ne.symm q)]
      exact this
  · rcases get_set h1 with ⟨q1, z1⟩ | ⟨q1, h1⟩
    · rcases get_set h2 with ⟨q2, z2⟩ | ⟨q2, h2⟩
      · rw [← q1, ← q2]
      · rw [if_pos q1.symm, if_neg (Ne.symm q2)] at h3
        exact absurd h3.symm (other b _ h2 m2)
    · rcases get_set h2 with ⟨q2, z2⟩ | ⟨q2, h2⟩
      · rw [if_pos q2.symm, if_neg (Ne.symm q1)] at h3
        exact absurd h3 (other a _ h1 m1)
      · rw [if_neg (Ne.symm q1), if_neg (Ne.symm q2)] at h3
        exact s.lr.owns a b _ _ h1 h2 m1 m2 h3
  · rcases get_set ej with ⟨q, z⟩ | ⟨q, e'⟩
    · rw [if_pos q.symm]
      exact s.ex.there p hH
    · rw [if_neg (Ne.symm q)]
      exact s.ow j ys e' m
/-- one's own list is written -/
theorem Sr.poke (s : Sr κ g0 F0 H0 g F own ρ w σ H) {i : Nat} {xs ys : List D} {us : List V} (hi : ρ[i]? = some (.own xs)) (hr : RpL g F us ys) : Sr κ g0 F0 H0 g F own (ρ.set i (.own ys)) w σ (upd H (own i) (.lst us)) := by
  obtain ⟨h1, h2, h3, vs, h4, h5⟩ := s.lr.slots i _ hi
  refine ⟨⟨s.lr.wk.hid h3 h2, ?_, fun j t ej => ?_, fun a b ys' zs e1 e2 m1 m2 e3 => ?_⟩, s.ex.poke (s.ow i _ hi rfl), fun j ys' ej m => ?_⟩
  · rw [List.length_set]; exact s.lr.len
  · rcases get_set ej with ⟨q, rfl⟩ | ⟨q, e'⟩
    · subst q
      exact ⟨h1, h2, h3, us, upd_same, hr⟩
    · have := s.lr.slots j t e'
      cases t with
      | un => trivial
      | d x => exact this
      | own zs =>
        obtain ⟨q1, q2, q3, ws, q4, q5⟩ := this
        exact ⟨q1, q2, q3, ws, by rw [upd_ne (fun z => q (s.lr.owns i j _ _ hi e' rfl rfl z.symm))]; exact q4, q5⟩
      | dc zs =>
        obtain ⟨q1, q2, q3, q4⟩ := this
        exact ⟨q1, q2, q3, by rw [upd_ne (fun z => q (s.lr.owns i j _ _ hi e' rfl rfl z.symm))]; exact q4⟩
  · have f : ∀ (a : Nat) zs, (ρ.set i (.own ys))[a]? = some zs → zs.mine = true → ∃ zs', ρ[a]? = some zs' ∧ zs'.mine = true := fun a zs e m => by
      rcases get_set e with ⟨q, _⟩ | ⟨q, e'⟩
      · exact ⟨_, q ▸ hi, rfl⟩
      · exact ⟨zs, e', m⟩
    obtain ⟨_, z1, y1⟩ := f a _ e1 m1
    obtain ⟨_, z2, y2⟩ := f b _ e2 m2
    exact s.lr.owns a b _ _ z1 z2 y1 y2 e3
  · rcases get_set ej with ⟨q, _⟩ | ⟨q, e'⟩
    · exact s.ow j (.own xs) (q ▸ hi) rfl
    · exact s.ow j _ e' m
/-- one's own list becomes frozen data -/
theorem Sr.freeze (s : Sr κ g0 F0 H0 g F own ρ w σ H) {i : Nat} {xs : List D} (hi : ρ[i]? = some (.own xs)) : ∃ F', Sr κ g0 F0 H0 g F' own (ρ.set i (.d (.list xs))) w σ H := by
  obtain ⟨h1, h2, h3, vs, h4, h5⟩ := s.lr.slots i _ hi
  have up : ∀ a o, F a = some o → upd F (own i) (.lst vs) a = some o := fun a o z => by rw [upd_ne (ne_of_none z h2)]; exact z
  refine ⟨upd F (own i) (.lst vs), ⟨s.lr.wk.seal h3 h2 h4, ?_, fun j t ej => ?_, fun a b ys' zs e1 e2 m1 m2 e3 => ?_⟩, s.ex.seal (s.ow i _ hi rfl) h2, fun j ys' ej m => ?_⟩
  · rw [List.length_set]; exact s.lr.len
  · rcases get_set ej with ⟨q, rfl⟩ | ⟨q, e'⟩
    · subst q
      exact ⟨_, h1, .lst upd_same (h5.mono List.prefix_rfl up)⟩
    · have := s.lr.slots j t e'
      cases t with
      | un => trivial
      | d x =>
        obtain ⟨u, q1, q2⟩ := this
        exact ⟨u, q1, q2.mono List.prefix_rfl up⟩
      | own zs =>
        obtain ⟨q1, q2, q3, ws, q4, q5⟩ := this
        exact ⟨q1, by rw [upd_ne (fun z => q (s.lr.owns i j _ _ hi e' rfl rfl z.symm))]; exact q2, q3, ws, q4, q5.mono List.prefix_rfl up⟩
      | dc zs =>
        obtain ⟨q1, q2, q3, q4⟩ := this
        exact ⟨q1, by rw [upd_ne (fun z => q (s.lr.owns i j _ _ hi e' rfl rfl z.symm))]; exact q2, q3, q4⟩
  · rcases get_set e1 with ⟨_, z⟩ | ⟨_, e1⟩
    · subst z; cases m1
    · rcases get_set e2 with ⟨_, z⟩ | ⟨_, e2⟩
      · subst z; cases m2
      · exact s.lr.owns a b _ _ e1 e2 m1 m2 e3
  · rcases get_set ej with ⟨_, z⟩ | ⟨_, e'⟩
    · subst z; cases m
    · exact s.ow j _ e' m
end

/-! ### blocks -/
def sNx : Sm := fun ρ w => .nx ρ w
def sBk : Sm := fun ρ w => .bk ρ w
def sCt : Sm := fun ρ w => .ct ρ w
def SR.seq (r : SR) (h : Sm) : SR := match r with
  | .nx ρ w => h ρ w
  | r => r
def sSeq (f h : Sm) : Sm := fun ρ w => (f ρ w).seq h
section
variable {κ : Kn} {W : WX} {X : Cx} {st : Stmt} {rest a b : List Stmt} {f h : Sm} {pos : Pos}
theorem dss_nil : DSs κ W X [] sNx := PSs.weak pss_nil fun E σ H ⟨g0, F0, H0, g, F, own, ρ, w, s, p⟩ => p g F own σ H s
theorem dss_cons (h1 : DS κ W X st f) (h2 : DSs κ W X rest h) : DSs κ W X (st :: rest) (sSeq f h) := PSs.weak (pss_cons h1 h2) fun E σ H ⟨g0, F0, H0, g, F, own, ρ, w, s, p⟩ => by
  refine ⟨g0, F0, H0, g, F, own, ρ, w, s, ?_⟩
  unfold sSeq SR.seq at p
  cases e : f ρ w with
  | nx ρ1 w1 =>
    rw [e] at p
    exact fun g1 F1 own1 σ1 H1 s1 => ⟨g0, F0, H0, g1, F1, own1, ρ1, w1, s1, p⟩
  | ret d w1 => rw [e] at p; exact p
  | bk ρ1 w1 => rw [e] at p; exact p
  | ct ρ1 w1 => rw [e] at p; exact p
  | err c ρ1 w1 => rw [e] at p; exact p
  | bad => rw [e] at p; exact p
theorem dss_one (h1 : DS κ W X st f) : DSs κ W X [st] f := pss_one h1
/-- ahead of a block: one's own list becomes data -/
def sFrz (i : Nat) (f : Sm) : Sm := fun ρ w => match ρ[i]? with
  | some (.own xs) => f (ρ.set i (.d (.list xs))) w
  | _ => .bad
theorem dss_frz {i : Nat} {sts : List Stmt} (h : DSs κ W X sts f) : DSs κ W X sts (sFrz i f) := PSs.weak h fun E σ H ⟨g0, F0, H0, g, F, own, ρ, w, s, p⟩ => by
  unfold sFrz at p
  cases e : ρ[i]? with
  | none => rw [e] at p; exact p.elim
  | some t =>
    rw [e] at p
    cases t with
    | own xs =>
      obtain ⟨F', s'⟩ := s.freeze e
      exact ⟨g0, F0, H0, g, F', own, _, w, s', p⟩
    | _ => exact p.elim
theorem ds_pass : DS κ W X (.Pass pos) sNx := PS.weak ps_pass fun E σ H ⟨g0, F0, H0, g, F, own, ρ, w, s, p⟩ => p g F own σ H s
theorem ds_break : DS κ W X (.Break pos) sBk := PS.weak ps_break fun E σ H ⟨g0, F0, H0, g, F, own, ρ, w, s, p⟩ => p g F own σ H s
theorem ds_continue : DS κ W X (.Continue pos) sCt := PS.weak ps_continue fun E σ H ⟨g0, F0, H0, g, F, own, ρ, w, s, p⟩ => p g F own σ H s
/-! ### an expression, a return, an if -/
variable {e : Expr} {R : RelE} {fe : DL.X D}
def sDrop (fe : DL.X D) : Sm := fun ρ w => (fe ρ w).to ρ fun _ w => .nx ρ w
theorem ds_expr (he : DE κ W X R e fe) (hs : swapsWith e none pos.line X.env = pure false := by rfl) : DS κ W X (.Expr e pos) (sDrop fe) := PS.weak (ps_expr he hs) fun E σ H ⟨g0, F0, H0, g, F, own, ρ, w, s, p⟩ =>
  ⟨g, F, own, ρ, w, s.lr, (po_to s p).mono fun d g1 F1 w1 H1 e1 k1 p1 v hv => p1 e1 g1 F1 own σ H1 (s.ext e1 k1)⟩
def sRet (fe : DL.X D) : Sm := fun ρ w => (fe ρ w).to ρ fun d w => .ret d w
theorem ds_ret (he : DE κ W X RD e fe) : DS κ W X (.Return (some e) pos) (sRet fe) := PS.weak (ps_ret he) fun E σ H ⟨g0, F0, H0, g, F, own, ρ, w, s, p⟩ =>
  ⟨g, F, own, ρ, w, s.lr, (po_to s p).mono fun d g1 F1 w1 H1 e1 k1 p1 v hv => p1 e1 g1 F1 H1 v (s.ex.trans e1) k1 hv⟩
def sRetN : Sm := fun _ w => .ret .none w
theorem ds_retN : DS κ W X (.Return none pos) sRetN := PS.weak ps_retN fun E σ H ⟨g0, F0, H0, g, F, own, ρ, w, s, p⟩ => p g F H .non s.ex s.lr.wk .non
def sIf (ft : DL.X Bool) (f h : Sm) : Sm := fun ρ w => (ft ρ w).to ρ fun b w => if b then f ρ w else h ρ w
theorem ds_if {c : Expr} {ft : DL.X Bool} (hc : DT κ W X c ft) (ha : DSs κ W X a f) (hb : DSs κ W X b h) : DS κ W X (.If c a b pos) (sIf ft f h) := PS.weak (ps_if hc ha hb) fun E σ H ⟨g0, F0, H0, g, F, own, ρ, w, s, p⟩ => by
  refine ⟨g, F, own, ρ, w, s.lr, (po_to s p).mono fun d g1 F1 w1 H1 e1 k1 p1 => ?_⟩
  have p2 := p1 e1
  cases d with
  | true => exact iteT ⟨g0, F0, H0, g1, F1, own, ρ, w1, s.ext e1 k1, p2⟩
  | false => exact iteF ⟨g0, F0, H0, g1, F1, own, ρ, w1, s.ext e1 k1, p2⟩
/-! ### stores -/
def sSet (i : Nat) (fe : DL.X D) : Sm := fun ρ w => (fe ρ w).to ρ fun d w => .nx (ρ.set i (.d d)) w
def sOwn (i : Nat) (fe : DL.X D) : Sm := fun ρ w => (fe ρ w).to ρ fun d w => match d with
  | .list xs => .nx (ρ.set i (.own xs)) w
  | _ => .bad
theorem ds_setOf {i : Nat} {te : TE} (h : PS X st (tAsg te (gName i))) (he : ∀ σ H Q, tE κ W RD fe σ H Q → te σ H Q) : DS κ W X st (sSet i fe) := PS.weak h fun E σ H ⟨g0, F0, H0, g, F, own, ρ, w, s, p⟩ =>
  he _ _ _ ⟨g, F, own, ρ, w, s.lr, (po_to s p).mono fun d g1 F1 w1 H1 e1 k1 p1 v hv => p1 e1 g1 F1 own _ H1 ((s.ext e1 k1).setD hv)⟩
theorem ds_ownOf {i : Nat} {te : TE} (h : PS X st (tAsg te (gName i))) (he : ∀ σ H Q, tE κ W RN fe σ H Q → te σ H Q) : DS κ W X st (sOwn i fe) := PS.weak h fun E σ H ⟨g0, F0, H0, g, F, own, ρ, w, s, p⟩ =>
  he _ _ _ ⟨g, F, own, ρ, w, s.lr, (po_to s p).mono fun d g1 F1 w1 H1 e1 k1 p1 v hv => by
    obtain ⟨xs, own', rfl, s'⟩ := s.setO e1 k1 hv
    exact p1 e1 g1 F1 own' _ H1 s'⟩
theorem ds_set {i : Nat} {x : Str} {pos' : Pos} (hN : X.N.Nodup) (hi : X.N[i]? = some x) (hx : Loc X.env.scope x) (he : DE κ W X RD e fe) (hs : swapsWith e (some (.Name x pos')) pos.line X.env = pure false := by rfl)
    (hf : X.fn x = true ∨ X.env.scope.names.lookup x = some .local := by first | exact .inl rfl | exact .inr rfl | assumption) : DS κ W X (.Assign [.Name x pos'] e pos) (sSet i fe) :=
  ds_setOf (ps_set hN hi hx he hs hf) fun _ _ _ q => q
theorem ds_own {i : Nat} {x : Str} {pos' : Pos} (hN : X.N.Nodup) (hi : X.N[i]? = some x) (hx : Loc X.env.scope x) (he : DE κ W X RN e fe) (hs : swapsWith e (some (.Name x pos')) pos.line X.env = pure false := by rfl)
    (hf : X.fn x = true ∨ X.env.scope.names.lookup x = some .local := by first | exact .inl rfl | exact .inr rfl | assumption) : DS κ W X (.Assign [.Name x pos'] e pos) (sOwn i fe) :=
  ds_ownOf (ps_set hN hi hx he hs hf) fun _ _ _ q => q
/-- targets that are names, one or several of a tuple -/
inductive Tgt where
  | nm (i : Nat)
  | tp (is : List Nat)
def setAll {α : Type} : List α → List Nat → List α → List α
  | ρ, i :: is, d :: ds => setAll (ρ.set i d) is ds
  | ρ, _, _ => ρ
def Tgt.set (t : Tgt) (d : D) (ρ : List Slot) : Option (List Slot) := match t with
  | .nm i => some (ρ.set i (.d d))
  | .tp is => match d with
    | .tuple ds => if ds.length = is.length then some (setAll ρ is (ds.map .d)) else none
    | _ => none
theorem setAll_length {α : Type} : ∀ (is : List Nat) (ds ρ : List α), (setAll ρ is ds).length = ρ.length
  | [], _, _ => by unfold setAll; rfl
  | _ :: _, [], _ => by unfold setAll; rfl
  | i :: is, d :: ds, ρ => by
    unfold setAll
    rw [setAll_length is ds, List.length_set]
theorem Lr.setAll {g : List Addr} {F H : Hp} {own : Nat → Addr} {w : W'} : ∀ (is : List Nat) {vs : List V} {ds : List D} {ρ : List Slot} {σ : L2.St}, Lr κ g F own ρ w σ H → RpL g F vs ds → Lr κ g F own (DL.setAll ρ is (ds.map .d)) w (DL.setAll σ is (vs.map some)) H
  | [], _, _, _, _, r, _ => by unfold DL.setAll; exact r
  | _ :: _, _, _, _, _, r, .nil => by unfold DL.setAll; exact r
  | i :: is, _, _, _, _, r, .cons h t => by
    show Lr κ g F own (DL.setAll (_ : List Slot) is _) w (DL.setAll (_ : L2.St) is _) H
    exact (r.setD h).setAll is t
/-- a target's reading: the slots' values are put -/
def putV (t : Tgt) (K : PySem.W.Frag) (v : V) (σ : L2.St) (H : Hp) (Q : L2.St → Hp → Prop) : Prop := match t with
  | .nm i => Q (σ.set i (some v)) H
  | .tp is => ∃ a vs, v = .ref a ∧ SqT K H a vs ∧ vs.length = is.length ∧ Q (DL.setAll σ is (vs.map some)) H
abbrev DG (X : Cx) (tg : Expr) (t : Tgt) : Prop := PG X tg (putV t X.K)
theorem dg_name {i : Nat} {x : Str} (hN : X.N.Nodup) (hi : X.N[i]? = some x) (hx : Loc X.env.scope x) (hf : X.fn x = true ∨ X.env.scope.names.lookup x = some .local := by first | exact .inl rfl | exact .inr rfl | assumption) : DG X (.Name x pos) (.nm i) := pg_name hN hi hx hf
abbrev DGs (X : Cx) (es : List Expr) (is : List Nat) : Prop := PGs X es fun vs σ H Q => vs.length = is.length ∧ Q (DL.setAll σ is (vs.map some)) H
theorem PGs.weak {es : List Expr} {t t' : TGs} (h : PGs X es t) (i : ∀ vs σ H Q, t' vs σ H Q → t vs σ H Q) : PGs X es t' := ⟨fun pins s σ H vs us Q I r q => h.run pins s σ H vs us Q I r (i vs σ H Q q)⟩
theorem PG.weak {e : Expr} {t t' : TG} (h : PG X e t) (i : ∀ vs σ H Q, t' vs σ H Q → t vs σ H Q) : PG X e t' := ⟨fun pins s σ H vs us Q I r q => h.run pins s σ H vs us Q I r (i vs σ H Q q)⟩
theorem dgs_nil : DGs X [] [] := PGs.weak pgs_nil fun vs σ H Q ⟨h1, h2⟩ => by
  cases vs with
  | nil => exact ⟨rfl, h2⟩
  | cons _ _ => simp at h1
theorem dgs_cons {es : List Expr} {i : Nat} {is : List Nat} (h1 : DG X e (.nm i)) (h2 : DGs X es is) (hs : (assignEach (e :: es) X.env).map (·.2) = assign e X.env :: (assignEach es X.env).map (·.2) := by rfl) : DGs X (e :: es) (i :: is) := PGs.weak (pgs_cons h1 h2 hs) fun vs σ H Q ⟨h1, h2⟩ => by
  cases vs with
  | nil => simp at h1
  | cons v r => exact ⟨v, r, rfl, by simpa using h1, h2⟩
theorem dg_tup {es : List Expr} {is : List Nat} {k : Nat} (hc : X.calm = true) (h : DGs X es is) (hn : (assignEach es X.env).length = is.length := by rfl) (hst : (assignEach es X.env).findIdx? (·.1) = none := by rfl) : DG X (.Tuple es k pos) (.tp is) :=
  PG.weak (pg_tup hc h hn hst) fun v σ H Q ⟨a, vs, h1, h2, h3, h4⟩ => ⟨a, vs, h1, h2, h3, h3, h4⟩
theorem put_of {g0 g : List Addr} {F0 H0 F H : Hp} {w : W'} {own : Nat → Addr} {ρ ρ' : List Slot} {σ : L2.St} {K : PySem.W.Frag} {t : Tgt} {v : V} {d : D} {Q : L2.St → Hp → Prop} (s : Lr κ g F own ρ w σ H) (hv : Rp g F v d) (ht : t.set d ρ = some ρ')
    (hQ : ∀ σ', Lr κ g F own ρ' w σ' H → (∀ j, (∀ i, t = .nm i → j ≠ i) → (∀ is, t = .tp is → j ∉ is) → σ'[j]? = σ[j]?) → σ'.length = σ.length → Q σ' H) : putV t K v σ H Q := by
  cases t with
  | nm i =>
    cases (Option.some.inj ht)
    exact hQ _ (s.setD hv) (fun j h1 _ => List.getElem?_set_ne (fun z => h1 i rfl z.symm)) (by rw [List.length_set])
  | tp is =>
    unfold Tgt.set at ht
    cases d with
    | tuple ds =>
      dsimp only at ht
      split at ht
      · rename_i hl
        cases (Option.some.inj ht)
        cases hv with
        | tup hF hr =>
          refine ⟨_, _, rfl, SqT.of (s.wk.FH _ _ hF), by rw [hr.length]; exact hl, hQ _ (s.setAll is hr) (fun j _ h2 => ?_) (setAll_length _ _ _)⟩
          have : ∀ (is : List Nat) (vs : List (Option V)) (σ : L2.St), j ∉ is → (DL.setAll σ is vs)[j]? = σ[j]? := by
            intro is
            induction is with
            | nil => intro vs σ _; unfold DL.setAll; rfl
            | cons i is ih =>
              intro vs σ hj
              cases vs with
              | nil => unfold DL.setAll; rfl
              | cons v vs =>
                unfold DL.setAll
                rw [ih vs _ (fun z => hj (List.mem_cons_of_mem _ z)), List.getElem?_set_ne (fun z => hj (by rw [z]; exact List.mem_cons_self))]
          exact this is _ σ (h2 is rfl)
      · cases ht
    | _ => cases ht
theorem own_back : ∀ (is : List Nat) (ds : List D) (ρ : List Slot) (j : Nat) xs, (DL.setAll ρ is (ds.map Slot.d))[j]? = some xs → xs.mine = true → ρ[j]? = some xs
  | [], _, _, _, _, h, _ => by unfold DL.setAll at h; exact h
  | _ :: _, [], _, _, _, h, _ => by
    rw [List.map_nil] at h
    unfold DL.setAll at h; exact h
  | i :: is, d :: ds, ρ, j, xs, h, m => by
    rw [List.map_cons] at h
    unfold DL.setAll at h
    have h2 := own_back is ds _ j xs h m
    rcases get_set h2 with ⟨_, z⟩ | ⟨_, z⟩
    · subst z; cases m
    · exact z
theorem set_own {t : Tgt} {d : D} {ρ ρ' : List Slot} {j : Nat} {xs : Slot} (h : t.set d ρ = some ρ') (e : ρ'[j]? = some xs) (m : xs.mine = true) : ρ[j]? = some xs := by
  cases t with
  | nm i =>
    cases (Option.some.inj h)
    rcases get_set e with ⟨_, z⟩ | ⟨_, z⟩
    · subst z; cases m
    · exact z
  | tp is =>
    unfold Tgt.set at h
    cases d with
    | tuple ds =>
      dsimp only at h
      split at h
      · cases (Option.some.inj h)
        exact own_back is ds ρ j xs e m
      · cases h
    | _ => cases h
/-- a, b = e -/
def sTgt (t : Tgt) (fe : DL.X D) : Sm := fun ρ w => (fe ρ w).to ρ fun d w => match t.set d ρ with
  | some ρ' => .nx ρ' w
  | none => .bad
theorem ds_tgt {tg : Expr} {t : Tgt} (he : DE κ W X RD e fe) (hg : DG X tg t) (hs : swapsWithSole [tg] e pos.line X.env = pure false := by rfl) (hw : swappedStores [tg] e X.env = pure none := by rfl)
    (h1 : (assignEach [tg] X.env).map (·.2) = [assign tg X.env] := by rfl) : DS κ W X (.Assign [tg] e pos) (sTgt t fe) := PS.weak (ps_asg he hg hs hw h1) fun E σ H ⟨g0, F0, H0, g, F, own, ρ, w, s, p⟩ => by
  refine ⟨g, F, own, ρ, w, s.lr, (po_to s p).mono fun d g1 F1 w1 H1 e1 k1 p1 v hv => ?_⟩
  have p2 := p1 e1
  have s1 := s.ext e1 k1
  cases ht : t.set d ρ with
  | none => rw [ht] at p2; exact p2.elim
  | some ρ' =>
    rw [ht] at p2
    exact put_of (g0 := g0) (F0 := F0) (H0 := H0) s1.lr hv ht fun σ' l _ _ => p2 g1 F1 own σ' H1 ⟨l, s1.ex, fun j xs ej m => s1.ow j xs (set_own ht ej m) m⟩
/-- a, b = x, y; a, b, c = x, y, z with plain local names -/
def sPar (i j : Nat) (fs : DL.X (List D)) : Sm := fun ρ w => (fs ρ w).to ρ fun ds w => match ds with
  | [a, b] => .nx ((ρ.set i (.d a)).set j (.d b)) w
  | _ => .bad
theorem ds_par {i j : Nat} {x y : Str} {ea eb : Expr} {fs : DL.X (List D)} {px py pt : Pos} {kt k2 pt2} (hc : X.calm = true) (hN : X.N.Nodup) (hi : X.N[i]? = some x) (hj : X.N[j]? = some y) (hij : i ≠ j)
    (hx : X.env.scope.names.lookup x = some .local) (hy : X.env.scope.names.lookup y = some .local) (ha : DA κ W X [RD, RD] [ea, eb] fs)
    (hw : swappedStores [.Tuple [.Name x px, .Name y py] kt pt] (.Tuple [ea, eb] k2 pt2) X.env = pure (some [x, y]))
    (hs : swapsWithSole [.Tuple [.Name x px, .Name y py] kt pt] (.Tuple [ea, eb] k2 pt2) pos.line X.env = pure false := by rfl) :
    DS κ W X (.Assign [.Tuple [.Name x px, .Name y py] kt pt] (.Tuple [ea, eb] k2 pt2) pos) (sPar i j fs) := PS.weak (ps_par hc hN hi hj hij hx hy ha hw hs) fun E σ H ⟨g0, F0, H0, g, F, own, ρ, w, s, p⟩ => by
  refine ⟨g, F, own, ρ, w, s.lr, (po_to s p).mono fun ds g1 F1 w1 H1 e1 k1 p1 vs hv => ?_⟩
  obtain ⟨v, v', d, d', rfl, rfl, h1, h2⟩ := rpr2 hv
  exact ⟨v, v', rfl, p1 e1 g1 F1 own _ H1 (((s.ext e1 k1).setD h1).setD h2)⟩
def sPar3 (i j l : Nat) (fs : DL.X (List D)) : Sm := fun ρ w => (fs ρ w).to ρ fun ds w => match ds with
  | [a, b, c] => .nx (((ρ.set i (.d a)).set j (.d b)).set l (.d c)) w
  | _ => .bad
theorem ds_par3 {i j l : Nat} {x y z : Str} {ea eb ec : Expr} {fs : DL.X (List D)} {px py pz pt : Pos} {kt k2 pt2} (hc : X.calm = true) (hN : X.N.Nodup) (hi : X.N[i]? = some x) (hj : X.N[j]? = some y) (hl : X.N[l]? = some z) (hij : i ≠ j) (hil : i ≠ l) (hjl : j ≠ l)
    (hx : X.env.scope.names.lookup x = some .local) (hy : X.env.scope.names.lookup y = some .local) (hz : X.env.scope.names.lookup z = some .local) (ha : DA κ W X [RD, RD, RD] [ea, eb, ec] fs)
    (hw : swappedStores [.Tuple [.Name x px, .Name y py, .Name z pz] kt pt] (.Tuple [ea, eb, ec] k2 pt2) X.env = pure (some [x, y, z]))
    (hs : swapsWithSole [.Tuple [.Name x px, .Name y py, .Name z pz] kt pt] (.Tuple [ea, eb, ec] k2 pt2) pos.line X.env = pure false := by rfl) :
    DS κ W X (.Assign [.Tuple [.Name x px, .Name y py, .Name z pz] kt pt] (.Tuple [ea, eb, ec] k2 pt2) pos) (sPar3 i j l fs) := PS.weak (ps_par3 hc hN hi hj hl hij hil hjl hx hy hz ha hw hs) fun E σ H ⟨g0, F0, H0, g, F, own, ρ, w, s, p⟩ => by
  refine ⟨g, F, own, ρ, w, s.lr, (po_to s p).mono fun ds g1 F1 w1 H1 e1 k1 p1 vs hv => ?_⟩
  cases hv with
  | cons h1 h2 =>
    cases h2 with
    | cons h2 h3 =>
      cases h3 with
      | cons h3 h4 =>
        cases h4
        exact ⟨_, _, _, rfl, p1 e1 g1 F1 own _ H1 ((((s.ext e1 k1).setD h1).setD h2).setD h3)⟩
/-- x += e, ints -/
def sAugI (i : Nat) (k : Int → Int → Int) (fe : DL.X D) : Sm := fun ρ w => match ρ[i]? with
  | some (.d (.int a)) => (fe ρ w).to ρ fun d w => match d with
    | .int b => .nx (ρ.set i (.d (.int (k a b)))) w
    | _ => .bad
  | _ => .bad
theorem ds_augI {i : Nat} {x : Str} {op : Operator} {k : Int → Int → Int} {pos' : Pos} (ho : PIp X op (ipI k)) (hN : X.N.Nodup) (hi : X.N[i]? = some x) (hx : Loc X.env.scope x) (he : DE κ W X RV e fe) (hf : X.fn x = true ∨ X.env.scope.names.lookup x = some .local := by first | exact .inl rfl | exact .inr rfl | assumption) :
    DS κ W X (.AugAssign (.Name x pos') op e pos) (sAugI i k fe) := PS.weak (ps_aug hN hi hx he ho hf) fun E σ H ⟨g0, F0, H0, g, F, own, ρ, w, s, p⟩ => by
  unfold sAugI at p
  split at p
  · rename_i a ea
    obtain ⟨u, h1, h2⟩ := s.lr.slots i _ ea
    cases h2
    refine ⟨_, h1, g, F, own, ρ, w, s.lr, (po_to s p).mono fun d g1 F1 w1 H1 e1 k1 p1 v hv => ?_⟩
    have p2 := p1 e1
    cases d with
    | int b => exact ⟨a, b, rfl, hv.int, p2 g1 F1 own _ H1 ((s.ext e1 k1).setD (.int _))⟩
    | _ => exact p2.elim
  · exact p.elim
/-- xs += ys, one's own list -/
def sExt (i : Nat) (fe : DL.X D) : Sm := fun ρ w => match ρ[i]? with
  | some (.own xs) => (fe ρ w).to ρ fun d w => match d with
    | .list ys => if szOk (xs.length + ys.length) then .nx (ρ.set i (.own (xs ++ ys))) w else .bad
    | _ => .bad
  | _ => .bad
theorem set_same {σ : L2.St} {i : Nat} {o : Option V} (h : σ[i]? = some o) : σ.set i o = σ := by
  apply List.ext_getElem?
  intro j
  by_cases e : i = j
  · subst e
    have hi := (List.getElem?_eq_some_iff.mp h).1
    rw [List.getElem?_set_self hi, h]
  · rw [List.getElem?_set_ne e]
theorem ds_ext {i : Nat} {x : Str} {pos' : Pos} (hN : X.N.Nodup) (hi : X.N[i]? = some x) (hx : Loc X.env.scope x) (he : DE κ W X RV e fe) (hf : X.fn x = true ∨ X.env.scope.names.lookup x = some .local := by first | exact .inl rfl | exact .inr rfl | assumption) :
    DS κ W X (.AugAssign (.Name x pos') .Add e pos) (sExt i fe) := PS.weak (ps_aug (ti := rExt2) hN hi hx he (fun pins s σ H x y v u Q I rx ry h => iop_ext pins s σ H x y v u Q I rx ry h) hf) fun E σ H ⟨g0, F0, H0, g, F, own, ρ, w, s, p⟩ => by
  unfold sExt at p
  split at p
  · rename_i xs ea
    obtain ⟨h1, h2, h3, vs, h4, h5⟩ := s.lr.slots i _ ea
    refine ⟨_, h1, g, F, own, ρ, w, s.lr, (po_to s p).mono fun d g1 F1 w1 H1 e1 k1 p1 v hv => ?_⟩
    have p2 := p1 e1
    have s1 := s.ext e1 k1
    cases d with
    | list ys =>
      dsimp only at p2
      split at p2
      · rename_i c
        obtain ⟨b, us, rfl, hb, rb⟩ := hv.list k1
        refine ⟨own i, b, vs, us, rfl, rfl, e1.keep _ _ h4 h3, hb, ?_, ?_⟩
        · rw [h5.length, rb.length]
          exact of_decide_eq_true c
        · show E.nx (σ.set i (some (.ref (own i)))) _
          rw [set_same h1]
          exact p2 g1 F1 own σ _ (s1.poke ea ((h5.mono e1.gg e1.FF).append rb))
      · exact p2.elim
    | _ => exact p2.elim
  · exact p.elim
/-- xs.append(e), one's own list -/
def sApp (i : Nat) (fe : DL.X D) : Sm := fun ρ w => match ρ[i]? with
  | some (.own xs) => (fe ρ w).to ρ fun d w => if decide (xs.length < sizeLine) then .nx (ρ.set i (.own (xs ++ [d]))) w else .bad
  | _ => .bad
theorem ds_app {i : Nat} {x : Str} {pos' apos cpos : Pos} (hx : PE X (.Name x pos') (tVar i)) (he : DE κ W X RD e fe)
    (hbase : attributeBase (.Name x pos') "append" X.env (eval (.Name x pos') X.env) = eval (.Name x pos') X.env := by rfl)
    (hfew : ((backTo cpos (starEach [e] X.env)).all (fun x => !x.1) && (backToKw cpos (keywordEach [] X.env)).all (fun x => x.1.isSome)
      && decide ([e].length + ([] : List Keyword).length + (if ([] : List Keyword).isEmpty then 0 else 1) < 30)) = true := by rfl)
    (hline : (apos.endLine == cpos.line) = true := by rfl) (hs : starEach [e] X.env = (false, eval e X.env) :: starEach [] X.env := by rfl) (hplain : (backTo cpos (starEach [] X.env)).any (·.1) = false := by rfl)
    (hsw : swapsWith (.Call (.Attribute (.Name x pos') "append" apos) [e] [] cpos) none pos.line X.env = pure false := by rfl) :
    DS κ W X (.Expr (.Call (.Attribute (.Name x pos') "append" apos) [e] [] cpos) pos) (sApp i fe) :=
  PS.weak (ps_expr (pe_bm PySem.F.plainAttrs_list PySem.F.slot_list_append PySem.F.type_list_append mt_append hx (pa_cons he pa_nil hs) hbase hfew hline hs hplain) hsw) fun E σ H ⟨g0, F0, H0, g, F, own, ρ, w, s, p⟩ => by
  unfold sApp at p
  split at p
  · rename_i xs ea
    obtain ⟨h1, h2, h3, vs, h4, h5⟩ := s.lr.slots i _ ea
    refine ⟨_, h1, .inl ⟨rfl, vs, SqL.of h4⟩, g, F, own, ρ, w, s.lr, (po_to s p).mono fun d g1 F1 w1 H1 e1 k1 p1 v hv => ?_⟩
    have p2 := p1 e1
    have s1 := s.ext e1 k1
    split at p2
    · rename_i c
      refine ⟨own i, vs, v, rfl, rfl, e1.keep _ _ h4 h3, ?_, ?_⟩
      · rw [h5.length]
        exact of_decide_eq_true c
      · exact p2 g1 F1 own σ _ (s1.poke ea ((h5.mono e1.gg e1.FF).append (.cons hv .nil)))
    · exact p2.elim
  · exact p.elim
/-- xs[j] = e, one's own list -/
def putAt (i : Nat) (xs : List D) (d j : D) : Sm := fun ρ w => match j with
  | .int j => match ixN xs.length j with
    | some n => .nx (ρ.set i (.own (xs.set n d))) w
    | none => .bad
  | _ => .bad
def sPut (i : Nat) (fj fe : DL.X D) : Sm := fun ρ w => match ρ[i]? with
  | some (.own xs) => (fe ρ w).to ρ fun d w => (fj ρ w).to ρ fun j w => putAt i xs d j ρ w
  | _ => .bad
theorem put_at {g0 g : List Addr} {F0 H0 F H H1 : Hp} {w : W'} {own : Nat → Addr} {ρ : List Slot} {σ : L2.St} {i : Nat} {xs : List D} {d j : D} {jv v : V} (s : Sr κ g0 F0 H0 g F own ρ w σ H) (ea : ρ[i]? = some (.own xs)) (hj : RV g F H1 H jv j) (hv : Rp g F v d) (p : putAt i xs d j ρ w ≠ .bad) :
    ∃ ys, putAt i xs d j ρ w = .nx (ρ.set i (.own ys)) w ∧ ∀ N : Hp → Prop, (∀ H', Sr κ g0 F0 H0 g F own (ρ.set i (.own ys)) w σ H' → N H') → rSetL (.ref (own i)) jv v H N := by
  unfold putAt at p ⊢
  cases j with
  | int j =>
    dsimp only at p ⊢
    cases en : ixN xs.length j with
    | none => rw [en] at p; exact absurd rfl p
    | some n =>
      obtain ⟨h1, h2, h3, vs, h4, h5⟩ := s.lr.slots i _ ea
      exact ⟨_, rfl, fun N hN => ⟨own i, vs, j, n, rfl, hj.int, h4, by rw [h5.length]; exact en, hN _ (s.poke ea (h5.set hv n))⟩⟩
  | _ => exact absurd rfl p
theorem pos_ne {g0 : List Addr} {F0 H0 : Hp} {E : Ends} {r : SR} (p : PoS κ W g0 F0 H0 E r) : r ≠ .bad := fun z => by subst z; exact p
theorem ds_put {i : Nat} {x : Str} {px tpos : Pos} {ej : Expr} {fj : DL.X D} (hx : PE X (.Name x px) (tVar i)) (hj : DE κ W X RV ej fj) (he : DE κ W X RD e fe)
    (ha : ∀ v, assign (.Subscript (.Name x px) ej tpos) X.env v = (do
      let ov ← holding [v] (eval (.Name x px) X.env)
      let iv ← holding [v, ov] (eval ej X.env)
      standAt tpos
      holding [v, ov, iv] (setItem ov iv v)
      release [v, ov, iv] []) := by intro _; rfl)
    (hs : swapsWithSole [.Subscript (.Name x px) ej tpos] e pos.line X.env = pure false := by rfl) (hw : swappedStores [.Subscript (.Name x px) ej tpos] e X.env = pure none := by rfl)
    (h1 : (assignEach [.Subscript (.Name x px) ej tpos] X.env).map (·.2) = [assign (.Subscript (.Name x px) ej tpos) X.env] := by rfl) : DS κ W X (.Assign [.Subscript (.Name x px) ej tpos] e pos) (sPut i fj fe) :=
  PS.weak (ps_asg he (pg_sub hx hj set_list ha) hs hw h1) fun E σ H ⟨g0, F0, H0, g, F, own, ρ, w, s, p⟩ => by
  unfold sPut at p
  split at p
  · rename_i xs ea
    refine ⟨g, F, own, ρ, w, s.lr, (po_to s p).mono fun d g1 F1 w1 H1 e1 k1 p1 v hv => ?_⟩
    have s1 := s.ext e1 k1
    obtain ⟨h1, _⟩ := s1.lr.slots i _ ea
    refine ⟨_, h1, g1, F1, own, ρ, w1, s1.lr, (po_to s1 (p1 e1)).mono fun j g2 F2 w2 H2 e2 k2 p2 jv hj => ?_⟩
    have p3 := p2 e2
    obtain ⟨ys, eq, hN⟩ := put_at (s1.ext e2 k2) ea hj (hv.mono e2.gg e2.FF) (pos_ne p3)
    rw [eq] at p3
    exact hN _ fun H' s3 => p3 g2 F2 own σ H' s3
  · exact p.elim
/-- xs[j], xs[k] = e -/
def sPut2 (i : Nat) (fj fk fe : DL.X D) : Sm := fun ρ w => match ρ[i]? with
  | some (.own xs) => (fe ρ w).to ρ fun d w => match d with
    | .tuple [d1, d2] => (fj ρ w).to ρ fun j w => (putAt i xs d1 j ρ w).seq fun ρ1 w => match ρ1[i]? with
      | some (.own ys) => (fk ρ1 w).to ρ1 fun k w => putAt i ys d2 k ρ1 w
      | _ => .bad
    | _ => .bad
  | _ => .bad
theorem ds_put2 {i : Nat} {x : Str} {px px2 tpos tpos2 pt : Pos} {kt : Nat} {ej ek : Expr} {fj fk : DL.X D} (hc : X.calm = true) (hx : PE X (.Name x px) (tVar i)) (hx2 : PE X (.Name x px2) (tVar i)) (hj : DE κ W X RV ej fj) (hk : DE κ W X RV ek fk) (he : DE κ W X RD e fe)
    (ha : ∀ v, assign (.Subscript (.Name x px) ej tpos) X.env v = (do
      let ov ← holding [v] (eval (.Name x px) X.env)
      let iv ← holding [v, ov] (eval ej X.env)
      standAt tpos
      holding [v, ov, iv] (setItem ov iv v)
      release [v, ov, iv] []) := by intro _; rfl)
    (ha2 : ∀ v, assign (.Subscript (.Name x px2) ek tpos2) X.env v = (do
      let ov ← holding [v] (eval (.Name x px2) X.env)
      let iv ← holding [v, ov] (eval ek X.env)
      standAt tpos2
      holding [v, ov, iv] (setItem ov iv v)
      release [v, ov, iv] []) := by intro _; rfl)
    (hs1 : (assignEach [.Subscript (.Name x px) ej tpos, .Subscript (.Name x px2) ek tpos2] X.env).map (·.2) = assign (.Subscript (.Name x px) ej tpos) X.env :: (assignEach [.Subscript (.Name x px2) ek tpos2] X.env).map (·.2) := by rfl)
    (hs2 : (assignEach [.Subscript (.Name x px2) ek tpos2] X.env).map (·.2) = assign (.Subscript (.Name x px2) ek tpos2) X.env :: (assignEach [] X.env).map (·.2) := by rfl)
    (hn : (assignEach [.Subscript (.Name x px) ej tpos, .Subscript (.Name x px2) ek tpos2] X.env).length = 2 := by rfl) (hst : (assignEach [.Subscript (.Name x px) ej tpos, .Subscript (.Name x px2) ek tpos2] X.env).findIdx? (·.1) = none := by rfl)
    (hs : swapsWithSole [.Tuple [.Subscript (.Name x px) ej tpos, .Subscript (.Name x px2) ek tpos2] kt pt] e pos.line X.env = pure false := by rfl) (hw : swappedStores [.Tuple [.Subscript (.Name x px) ej tpos, .Subscript (.Name x px2) ek tpos2] kt pt] e X.env = pure none := by rfl)
    (h1 : (assignEach [.Tuple [.Subscript (.Name x px) ej tpos, .Subscript (.Name x px2) ek tpos2] kt pt] X.env).map (·.2) = [assign (.Tuple [.Subscript (.Name x px) ej tpos, .Subscript (.Name x px2) ek tpos2] kt pt) X.env] := by rfl) :
    DS κ W X (.Assign [.Tuple [.Subscript (.Name x px) ej tpos, .Subscript (.Name x px2) ek tpos2] kt pt] e pos) (sPut2 i fj fk fe) :=
  PS.weak (ps_asg he (pg_tup hc (pgs_cons (pg_sub hx hj set_list ha) (pgs_cons (pg_sub hx2 hk set_list ha2) pgs_nil hs2) hs1) hn hst) hs hw h1) fun E σ H ⟨g0, F0, H0, g, F, own, ρ, w, s, p⟩ => by
  unfold sPut2 at p
  split at p
  · rename_i xs ea
    refine ⟨g, F, own, ρ, w, s.lr, (po_to s p).mono fun d g1 F1 w1 H1 e1 k1 p1 v hv => ?_⟩
    have s1 := s.ext e1 k1
    have p2 := p1 e1
    split at p2
    · rename_i d1 d2
      cases hv with
      | tup hF hr =>
        cases hr with
        | cons r1 hr =>
          cases hr with
          | cons r2 hr =>
            cases hr
            rename_i a v1 v2
            refine ⟨a, [v1, v2], rfl, SqT.of (k1.FH _ _ hF), rfl, v1, [v2], rfl, ?_⟩
            obtain ⟨h1, _⟩ := s1.lr.slots i _ ea
            refine ⟨_, h1, g1, F1, own, ρ, w1, s1.lr, (po_to s1 p2).mono fun j g2 F2 w2 H2 e2 k2 p3 jv hj => ?_⟩
            have s2 := s1.ext e2 k2
            have p4 := p3 e2
            have hne : putAt i xs d1 j ρ w2 ≠ .bad := fun z => by rw [z] at p4; exact p4
            obtain ⟨ys, eq, hN⟩ := put_at s2 ea hj (r1.mono e2.gg e2.FF) hne
            rw [eq] at p4
            refine hN _ fun H3 s3 => ?_
            have hi : (ρ.set i (.own ys))[i]? = some (.own ys) := List.getElem?_set_self (List.getElem?_eq_some_iff.mp ea).1
            unfold SR.seq at p4
            dsimp only at p4
            rw [hi] at p4
            dsimp only at p4
            refine ⟨v2, [], rfl, ?_⟩
            obtain ⟨h1, _⟩ := s3.lr.slots i _ hi
            refine ⟨_, h1, g2, F2, own, _, w2, s3.lr, (po_to s3 p4).mono fun k g4 F4 w4 H4 e4 k4 p5 kv hk => ?_⟩
            have p6 := p5 e4
            obtain ⟨zs, eq2, hN2⟩ := put_at (s3.ext e4 k4) hi hk ((r2.mono e2.gg e2.FF).mono e4.gg e4.FF) (pos_ne p6)
            rw [eq2] at p6
            exact hN2 _ fun H5 s5 => ⟨rfl, p6 g4 F4 own σ H5 s5⟩
    · exact p2.elim
  · exact p.elim
/-- o[i] of a list, by values -/
theorem get_list : PGet X (rIxL X.K) := by
  intro pins s σ H x y v u Q I rx ry h
  obtain ⟨a, xs, i, z, rfl, rfl, hq, he, q⟩ := h
  cases rx
  obtain ⟨t, rfl⟩ := ry
  obtain ⟨its, r, pl, hz⟩ := I.list hq
  obtain ⟨j, h1, h2, h3, h4, h5⟩ := atI_get he
  obtain ⟨u', ew, rw'⟩ := r.get h2
  have hl := r.length
  have hn := line63
  by_cases h0 : 0 ≤ i
  · have hj : i.toNat = j := by
      rw [seqIndex_of h0 h5] at h1
      exact Option.some.inj h1
    exact wpAny_getItem_list pl.isList h0 (by omega) (by rw [hj]; simpa using ew) ⟨z, H, I, rw', q⟩
  · have hj : (i + (its.toArray.size : Int)).toNat = j := by
      rw [seqIndex_neg (by omega) h4] at h1
      rw [List.size_toArray, ← hl]
      exact Option.some.inj h1
    exact wpAny_getItem_list_neg pl.isList (by omega) (by rw [List.size_toArray] <;> omega) (by omega) (by rw [hj]; simpa using ew) ⟨z, H, I, rw', q⟩
/-- xs[j] += e, one's own list of ints -/
def sAugAt (i : Nat) (k : Int → Int → Int) (fj fe : DL.X D) : Sm := fun ρ w => match ρ[i]? with
  | some (.own xs) => (fj ρ w).to ρ fun j w => match j with
    | .int j => match atI xs j with
      | some (.int a) => (fe ρ w).to ρ fun d w => match d with
        | .int b => putAt i xs (.int (k a b)) (.int j) ρ w
        | _ => .bad
      | _ => .bad
    | _ => .bad
  | _ => .bad
theorem ds_augAt {i : Nat} {x : Str} {op : Operator} {k : Int → Int → Int} {px tpos : Pos} {ej : Expr} {fj : DL.X D} (hp : PIp X op (ipI k)) (hx : PE X (.Name x px) (tVar i)) (hj : DE κ W X RV ej fj) (he : DE κ W X RV e fe)
    (ha : ∀ ov iv new, augStore ej ov iv new = (do holding [new, ov, iv] (setItem ov iv new); release [new, ov, iv] []; pure .next) := by intros; rfl) : DS κ W X (.AugAssign (.Subscript (.Name x px) ej tpos) op e pos) (sAugAt i k fj fe) :=
  PS.weak (ps_augS hx hj get_list he hp set_list ha) fun E σ H ⟨g0, F0, H0, g, F, own, ρ, w, s, p⟩ => by
  unfold sAugAt at p
  split at p
  · rename_i xs ea
    obtain ⟨h1, _⟩ := s.lr.slots i _ ea
    refine ⟨_, h1, g, F, own, ρ, w, s.lr, (po_to s p).mono fun j g1 F1 w1 H1 e1 k1 p1 jv hj => ?_⟩
    have s1 := s.ext e1 k1
    have p2 := p1 e1
    cases j with
    | int j =>
      dsimp only at p2
      split at p2
      · rename_i a eat
        obtain ⟨h1, h2, h3, vs, h4, h5⟩ := s1.lr.slots i _ ea
        obtain ⟨z, q1, q2⟩ := h5.atI eat
        cases q2
        refine ⟨own i, vs, j, _, rfl, hj.int, SqL.of h4, q1, g1, F1, own, ρ, w1, s1.lr, (po_to s1 p2).mono fun d g2 F2 w2 H2 e2 k2 p3 v hv => ?_⟩
        have s2 := s1.ext e2 k2
        have p4 := p3 e2
        cases d with
        | int b =>
          refine ⟨a, b, rfl, hv.int, ?_⟩
          have p4 : PoS κ W g0 F0 H0 E (putAt i xs (.int (k a b)) (.int j) ρ w2) := p4
          obtain ⟨ys, eq, hN⟩ := put_at s2 ea (Stable.ext hj e2) (.int _) (pos_ne p4)
          rw [eq] at p4
          exact hN _ fun H' s3 => p4 g2 F2 own σ H' s3
        | _ => exact p4.elim
      · exact p2.elim
    | _ => exact p2.elim
  · exact p.elim
end
end DL

/-! The data layer, 5: loops, comprehensions, raise, defs. -/
namespace DL
open PySem PySem.Spec PyProof.Rows L2
variable [Ec]

/-! ### what is walked -/
def Later (b : Bool) (g1 : List Addr) (F1 H1 : Hp) (g : List Addr) (F H : Hp) : Prop := match b with
  | true => Ext g1 F1 H1 g F H
  | false => g1 <+: g ∧ ∀ a o, F1 a = some o → F a = some o
theorem Later.of {b : Bool} {g1 F1 H1 g F H} (e : Ext g1 F1 H1 g F H) : Later b g1 F1 H1 g F H := by
  cases b with
  | true => exact e
  | false => exact ⟨e.gg, e.FF⟩
theorem Later.gg {b : Bool} {g1 F1 H1 g F H} (e : Later b g1 F1 H1 g F H) : g1 <+: g := by
  cases b with
  | true => exact Ext.gg e
  | false => exact e.1
theorem Later.FF {b : Bool} {g1 F1 H1 g F H} (e : Later b g1 F1 H1 g F H) : ∀ a o, F1 a = some o → F a = some o := by
  cases b with
  | true => exact Ext.FF e
  | false => exact e.2
/-- J yields ds -/
def Walk (κ : Kn) (b : Bool) (J : It) (ds : List D) (g1 : List Addr) (F1 H1 : Hp) : Prop :=
  ∀ (g : List Addr) (F : Hp) (w : W') (H : Hp) (i : Nat), Wk κ g F w H → Later b g1 F1 H1 g F H →
    (∀ d, ds[i]? = some d → J.go i H ∧ ∀ x H', J.yld i H x H' → ∃ F', Ext g F H g F' H' ∧ Wk κ g F' w H' ∧ Rp g F' x d) ∧ (ds.length ≤ i → J.stop i H)
def tI (κ : Kn) (W : WX) (b : Bool) (f : X (List D)) : TI := fun σ H R => ∃ g F own ρ w, Lr κ g F own ρ w σ H ∧ Po κ W g F H σ (f ρ w) fun ds g' F' _ H' => ∀ J, Walk κ b J ds g' F' H' → ds.length ≤ sizeLine → R J H'
abbrev DI (κ : Kn) (W : WX) (X : Cx) (b : Bool) (tg iter : Expr) (f : DL.X (List D)) : Prop := PI X tg iter (tI κ W b f)
theorem PI.weak {X : Cx} {tg e : Expr} {t t' : TI} (h : PI X tg e t) (i : ∀ σ H Q, t' σ H Q → t σ H Q) : PI X tg e t' := ⟨fun pins s σ H R I q => h.run pins s σ H R I (i σ H R q)⟩
/-- lists are no longer than the line -/
theorem PE.len {X : Cx} {e : Expr} {t : TE} (h : PE X e t) : PE X e (fun σ H Q => t σ H fun v H' => (∀ a xs, v = .ref a → SqL X.K H' a xs ∨ SqT X.K H' a xs → xs.length ≤ sizeLine) → Q v H') := ⟨fun pins s σ H Q I q =>
  thn (h.run pins s σ H _ I q) fun u s1 ⟨v, H1, I1, r1, q1⟩ => ⟨v, H1, I1, r1, q1 fun a xs _ hs => by
    rcases hs with hs | hs
    · obtain ⟨_, _, _, z⟩ := I1.list hs; exact z
    · obtain ⟨_, _, _, z⟩ := I1.tuple hs; exact z⟩⟩
theorem PA.len {X : Cx} {es : List Expr} {t : TA} (h : PA X es t) : PA X es (fun σ H Q => t σ H fun vs H' => (∀ a xs, V.ref a ∈ vs → SqL X.K H' a xs → xs.length ≤ sizeLine) → Q vs H') := ⟨fun pos pins s σ H Q I q =>
  thn (h.run pos pins s σ H _ I q) fun u s1 ⟨v, H1, I1, r1, q1⟩ => ⟨v, H1, I1, r1, q1 fun a xs _ hs => by
    obtain ⟨_, _, _, z⟩ := I1.list hs; exact z⟩⟩
def asL : D → M (List D)
  | .list ds => M.pure ds
  | _ => M.bad
def asU : D → M (List D)
  | .tuple ds => M.pure ds
  | _ => M.bad
/-- a list or a tuple -/
def asS : D → M (List D)
  | .list ds => M.pure ds
  | .tuple ds => M.pure ds
  | _ => M.bad
def xIt (k : D → M (List D)) (f : X D) : X (List D) := fun ρ => M.bind (f ρ) k
section
variable {κ : Kn} {W : WX} {X : Cx} {tg l : Expr} {fl : DL.X D} {pos : Pos}
theorem walk_list {K : PySem.W.Frag} {a : Addr} {vs : List V} {ds : List D} {g1 F1 w1 H1} {b : Bool} (k1 : Wk κ g1 F1 w1 H1) (hF : b = false → F1 a = some (.lst vs)) (hH : b = true → H1 a = some (.lst vs) ∧ a ∉ g1) (hr : RpL g1 F1 vs ds) : Walk κ b (Itl K a) ds g1 F1 H1 := fun g F w H i k la => by
  have hq : SqL K H a vs := by
    cases b with
    | true => exact SqL.of (Ext.keep la a _ (hH rfl).1 (hH rfl).2)
    | false => exact SqL.of (k.FH _ _ (la.2 _ _ (hF rfl)))
  refine ⟨fun d hd => ?_, fun hl => ⟨vs, hq, by rw [hr.length]; exact hl⟩⟩
  obtain ⟨v, h1, h2⟩ := hr.get hd
  refine ⟨⟨vs, v, hq, h1⟩, fun x H' y => ?_⟩
  obtain ⟨rfl, y⟩ := y
  have := y vs hq
  rw [h1] at this
  cases this
  exact ⟨F, Ext.refl g F _, k, h2.mono la.gg la.FF⟩
theorem di_list (h : DE κ W X RD l fl) : DI κ W X false tg l (xIt asL fl) := PI.weak (pi_list (PE.len h)) fun σ H R ⟨g, F, own, ρ, w, lr, p⟩ => by
  refine ⟨g, F, own, ρ, w, lr, (po_bind p).mono fun d g1 F1 w1 H1 e1 k1 p1 v hv hl => ?_⟩
  have p2 := p1 e1
  cases d with
  | list ds =>
    cases hv with
    | lst hF hr =>
      rename_i a vs
      have hq : SqL X.K H1 a vs := SqL.of (k1.FH _ _ hF)
      exact ⟨a, rfl, ⟨vs, hq⟩, po_ok p2 k1 _ (walk_list k1 (fun _ => hF) (fun z => nomatch z) hr) (by rw [← hr.length]; exact hl a vs rfl (.inl hq))⟩
  | _ => exact p2.elim
/-- .. a list of one's own, in a comprehension -/
theorem di_own (h : DE κ W X RV l fl) : DI κ W X true tg l (xIt asL fl) := PI.weak (pi_list (PE.len h)) fun σ H R ⟨g, F, own, ρ, w, lr, p⟩ => by
  refine ⟨g, F, own, ρ, w, lr, (po_bind p).mono fun d g1 F1 w1 H1 e1 k1 p1 v hv hl => ?_⟩
  have p2 := p1 e1
  cases d with
  | list ds =>
    have hv' := hv
    obtain ⟨a, vs, rfl, ha, hr⟩ := hv.list k1
    have hq : SqL X.K H1 a vs := SqL.of ha
    refine ⟨a, rfl, ⟨vs, hq⟩, po_ok p2 k1 _ (walk_list k1 (fun z => nomatch z) (fun _ => ⟨ha, fun z => ?_⟩) hr) (by rw [← hr.length]; exact hl a vs rfl (.inl hq))⟩
    rcases hv' with h | ⟨b, us, es, h1, h2, h3, h4, h5⟩
    · cases h with
      | lst h1 h2 => rw [k1.gF a z] at h1; cases h1
    · cases h1; exact h3 z
  | _ => exact p2.elim
theorem DI.tr {f : DL.X (List D)} (h : DI κ W X false tg l f) : DI κ W X true tg l f := PI.weak h fun σ H R ⟨g, F, own, ρ, w, lr, p⟩ =>
  ⟨g, F, own, ρ, w, lr, p.mono fun ds g1 F1 w1 H1 e1 k1 p1 J walk hl => p1 J (fun g F w H i k la => walk g F w H i k ⟨Ext.gg la, Ext.FF la⟩) hl⟩
theorem di_tup (h : DE κ W X RD l fl) : DI κ W X false tg l (xIt asU fl) := PI.weak (pi_tup (PE.len h)) fun σ H R ⟨g, F, own, ρ, w, lr, p⟩ => by
  refine ⟨g, F, own, ρ, w, lr, (po_bind p).mono fun d g1 F1 w1 H1 e1 k1 p1 v hv hl => ?_⟩
  have p2 := p1 e1
  cases d with
  | tuple ds =>
    cases hv with
    | tup hF hr =>
      rename_i a vs
      have hq : SqT X.K H1 a vs := SqT.of (k1.FH _ _ hF)
      refine ⟨a, rfl, ⟨vs, hq⟩, po_ok p2 k1 _ (fun g F w H i k la => ?_) (by rw [← hr.length]; exact hl a vs rfl (.inr hq))⟩
      have hq : SqT X.K H a vs := SqT.of (k.FH _ _ (la.2 _ _ hF))
      refine ⟨fun d hd => ?_, fun hl => ⟨vs, hq, by rw [hr.length]; exact hl⟩⟩
      obtain ⟨v, h1, h2⟩ := hr.get hd
      refine ⟨⟨vs, v, hq, h1⟩, fun x H' y => ?_⟩
      obtain ⟨rfl, y⟩ := y
      have := y vs hq
      rw [h1] at this
      cases this
      exact ⟨F, Ext.refl g F _, k, h2.mono la.gg la.FF⟩
  | _ => exact p2.elim
/-- a list or a tuple walked: which, its value tells -/
theorem pi_seq {X : Cx} {tg l : Expr} {tl : TE} (hl : PE X l tl) : PI X tg l (fun σ H R => tl σ H fun v H1 => ∃ a, v = .ref a ∧ (((∃ xs, SqL X.K H1 a xs) ∧ R (Itl X.K a) H1) ∨ ((∃ xs, SqT X.K H1 a xs) ∧ R (Itt X.K a) H1))) := by
  refine ⟨fun pins s σ H R I h => thn (hl.run pins s σ H _ I h) fun v s1 ⟨x, H1, I1, r1, q1⟩ => ?_⟩
  have fp : ∀ b ∈ [s1.heap.objs.size], _ := fun b hb => (List.mem_singleton.mp hb) ▸ I1.fpOk (Nat.le_refl _) (I1.hok.fresh (Nat.le_refl _))
  have kp := fun o' => I1.kept (h' := s1.heap.push o') (t' := s1.toks) fun b o e => Heap.get?_push_of_some _ e
  obtain ⟨a, rfl, q1⟩ := q1
  cases r1
  rcases q1 with ⟨⟨xs, hq⟩, q⟩ | ⟨⟨xs, hq⟩, q⟩
  · obtain ⟨its, _, p, _⟩ := I1.list hq
    exact wpAny_pyIter_list p.isList ⟨s1.heap.objs.size, [s1.heap.objs.size], _, _, H1, rfl, kp _, turn_list a _, ⟨_, Heap.get?_push_size _ rfl, rfl, rfl⟩, fp, q⟩
  · obtain ⟨its, _, p, _⟩ := I1.tuple hq
    exact wpAny_pyIter_tuple (items := its.toArray) p ⟨s1.heap.objs.size, [s1.heap.objs.size], _, _, H1, rfl, kp _, turn_tuple a _, ⟨_, Heap.get?_push_size _ rfl, rfl, rfl⟩, fp, q⟩
theorem di_seq (h : DE κ W X RD l fl) : DI κ W X false tg l (xIt asS fl) := PI.weak (pi_seq (PE.len h)) fun σ H R ⟨g, F, own, ρ, w, lr, p⟩ => by
  refine ⟨g, F, own, ρ, w, lr, (po_bind p).mono fun d g1 F1 w1 H1 e1 k1 p1 v hv hl => ?_⟩
  have p2 := p1 e1
  cases d with
  | list ds =>
    cases hv with
    | lst hF hr =>
      rename_i a vs
      have hq : SqL X.K H1 a vs := SqL.of (k1.FH _ _ hF)
      exact ⟨a, rfl, .inl ⟨⟨vs, hq⟩, po_ok p2 k1 _ (walk_list k1 (fun _ => hF) (fun z => nomatch z) hr) (by rw [← hr.length]; exact hl a vs rfl (.inl hq))⟩⟩
  | tuple ds =>
    cases hv with
    | tup hF hr =>
      rename_i a vs
      have hq : SqT X.K H1 a vs := SqT.of (k1.FH _ _ hF)
      refine ⟨a, rfl, .inr ⟨⟨vs, hq⟩, po_ok p2 k1 _ (fun g F w H i k la => ?_) (by rw [← hr.length]; exact hl a vs rfl (.inr hq))⟩⟩
      have hq : SqT X.K H a vs := SqT.of (k.FH _ _ (la.2 _ _ hF))
      refine ⟨fun d hd => ?_, fun hl => ⟨vs, hq, by rw [hr.length]; exact hl⟩⟩
      obtain ⟨v, h1, h2⟩ := hr.get hd
      refine ⟨⟨vs, v, hq, h1⟩, fun x H' y => ?_⟩
      obtain ⟨rfl, y⟩ := y
      have := y vs hq
      rw [h1] at this
      cases this
      exact ⟨F, Ext.refl g F _, k, h2.mono la.gg la.FF⟩
  | _ => exact p2.elim
/-- range(n), range(a, b) -/
def kRg : D → M (List D)
  | .int n => chk (cRg n) (M.pure (rgD n))
  | _ => M.bad
def rgD2 (a b : Int) : List D := dInts ((List.range (b - a).toNat).map fun (i : Nat) => a + (i : Int))
def cRg2 (a b : Int) : Bool := decide (-1000000 ≤ a) && decide (a ≤ 1000000) && decide (-1000000 ≤ b) && decide (b ≤ 1000000)
def kRg2 : List D → M (List D)
  | [.int a, .int b] => chk (cRg2 a b) (M.pure (rgD2 a b))
  | _ => M.bad
theorem walk_rng {ds : List D} {g1 F1 H1} {b : Bool} {lo : Int} {n : Nat} (hn : ds.length = n) (hd : ∀ (i : Nat) (d : D), ds[i]? = some d → d = .int (lo + (i : Int))) : Walk κ b (Itr lo n) ds g1 F1 H1 := fun g F w H i k la => by
  refine ⟨fun d h => ⟨?_, fun x H' y => ?_⟩, fun h => ?_⟩
  · have := (List.getElem?_eq_some_iff.mp h).1
    rw [hn] at this
    exact this
  · obtain ⟨rfl, rfl⟩ := y
    rw [hd i d h]
    exact ⟨F, Ext.refl g F _, k, .int _⟩
  · rw [hn] at h
    exact h
theorem di_range1 {a : Expr} {fa : DL.X D} {p : Pos} (hg : Gl X "range") (hm : X.mg "range" = none) (ha : DE κ W X RV a fa) (hs0 : starEach [a] X.env = (false, eval a X.env) :: starEach [] X.env := by rfl) (hs : starEach [a] X.env = [(false, eval a X.env)] := by rfl) : DI κ W X false tg (.Call (.Name "range" p) [a] [] pos) (xIt kRg fa) :=
  PI.weak (pi_range1 hg hm (pa_cons ha pa_nil hs0) hs) fun σ H R ⟨g, F, own, ρ, w, lr, p⟩ => by
    refine ⟨g, F, own, ρ, w, lr, (po_bind p).mono fun d g1 F1 w1 H1 e1 k1 p1 v hv => ?_⟩
    have p2 := p1 e1
    cases d with
    | int n =>
      obtain ⟨c, p2⟩ := po_chk p2
      unfold cRg at c
      simp only [Bool.and_eq_true, decide_eq_true_eq] at c
      have hl : (rgD n).length = n.toNat := by unfold rgD dInts; rw [List.length_map, List.length_map, List.length_range]
      refine ⟨n, by rw [hv.int], by omega, by omega, po_ok p2 k1 _ (walk_rng hl fun i d h => ?_) (by rw [hl, sizeLine_eq]; omega)⟩
      unfold rgD dInts at h
      rw [List.getElem?_map, List.getElem?_map] at h
      cases e : (List.range n.toNat)[i]? with
      | none => rw [e] at h; cases h
      | some j =>
        rw [e] at h
        rw [List.getElem?_range (by have := (List.getElem?_eq_some_iff.mp e).1; simpa using this)] at e
        cases e
        cases h
        show PyData.int (i : Int) = PyData.int (0 + (i : Int))
        rw [Int.zero_add]
    | _ => exact p2.elim
theorem di_range2 {a b : Expr} {fs : DL.X (List D)} {p : Pos} (hg : Gl X "range") (hm : X.mg "range" = none) (ha : DA κ W X [RV, RV] [a, b] fs) (hs : starEach [a, b] X.env = [(false, eval a X.env), (false, eval b X.env)] := by rfl) (hs2 : starEach [b] X.env = [(false, eval b X.env)] := by rfl) :
    DI κ W X false tg (.Call (.Name "range" p) [a, b] [] pos) (fun ρ => M.bind (fs ρ) kRg2) :=
  PI.weak (pi_range2 hg hm ha hs hs2) fun σ H R ⟨g, F, own, ρ, w, lr, p⟩ => by
    refine ⟨g, F, own, ρ, w, lr, (po_bind p).mono fun ds g1 F1 w1 H1 e1 k1 p1 vs hv => ?_⟩
    have p2 := p1 e1
    obtain ⟨v, v', d, d', rfl, rfl, h1, h2⟩ := rpr2 hv
    cases d with
    | int lo =>
     cases d' with
     | int hi =>
      obtain ⟨c, p2⟩ := po_chk p2
      unfold cRg2 at c
      simp only [Bool.and_eq_true, decide_eq_true_eq] at c
      have hl : (rgD2 lo hi).length = (hi - lo).toNat := by unfold rgD2 dInts; rw [List.length_map, List.length_map, List.length_range]
      refine ⟨lo, hi, by rw [h1.int, h2.int], ⟨by omega, by omega, by omega, by omega⟩, po_ok p2 k1 _ (walk_rng hl fun i d h => ?_) (by rw [hl, sizeLine_eq]; omega)⟩
      unfold rgD2 dInts at h
      rw [List.getElem?_map, List.getElem?_map] at h
      cases e : (List.range (hi - lo).toNat)[i]? with
      | none => rw [e] at h; cases h
      | some j =>
        rw [e] at h
        rw [List.getElem?_range (by have := (List.getElem?_eq_some_iff.mp e).1; simpa using this)] at e
        cases e
        cases h
        rfl
     | _ => exact p2.elim
    | _ => exact p2.elim
/-- zip(xs, ys), enumerate(xs) -/
def zipD (xs ys : List D) : List D := List.zipWith (fun a b => .tuple [a, b]) xs ys
def kZip : List D → M (List D)
  | [.list xs, .list ys] => M.pure (zipD xs ys)
  | _ => M.bad
def enumD : Nat → List D → List D
  | _, [] => []
  | i, x :: r => .tuple [.int (i : Int), x] :: enumD (i + 1) r
def kEnum : List D → M (List D)
  | [.list xs] => M.pure (enumD 0 xs)
  | _ => M.bad
theorem enumD_get : ∀ (xs : List D) (n i : Nat) d, (enumD n xs)[i]? = some d → ∃ x, xs[i]? = some x ∧ d = .tuple [.int ((n + i : Nat) : Int), x]
  | [], _, _, _, h => by unfold enumD at h; simp at h
  | x :: r, n, 0, d, h => by
    unfold enumD at h
    simp at h
    exact ⟨x, rfl, h.symm⟩
  | x :: r, n, i + 1, d, h => by
    unfold enumD at h
    obtain ⟨y, h1, h2⟩ := enumD_get r (n + 1) i d (by simpa using h)
    exact ⟨y, by simpa using h1, by rw [h2, show n + 1 + i = n + (i + 1) by omega]⟩
theorem enumD_length : ∀ (xs : List D) (n : Nat), (enumD n xs).length = xs.length
  | [], _ => rfl
  | x :: r, n => by
    unfold enumD
    rw [List.length_cons, List.length_cons, enumD_length r]
theorem di_zip {a b : Expr} {fs : DL.X (List D)} {p tpos : Pos} {elts : List Expr} {kk : Nat} (hg : Gl X "zip") (hm : X.mg "zip" = none) (ha : DA κ W X [RD, RD] [a, b] fs)
    (hs : starEach [a, b] X.env = (false, eval a X.env) :: starEach [b] X.env := by rfl) (hpl : (backTo pos (starEach [b] X.env)).any (·.1) = false := by rfl) :
    DI κ W X false (.Tuple elts kk tpos) (.Call (.Name "zip" p) [a, b] [] pos) (fun ρ => M.bind (fs ρ) kZip) :=
  PI.weak (pi_zip hg hm (PA.len ha) hs hpl) fun σ H R ⟨g, F, own, ρ, w, lr, p⟩ => by
    refine ⟨g, F, own, ρ, w, lr, (po_bind p).mono fun ds g1 F1 w1 H1 e1 k1 p1 vs hv hlen => ?_⟩
    have p2 := p1 e1
    obtain ⟨v, v', d, d', rfl, rfl, h1, h2⟩ := rpr2 hv
    cases d with
    | list xs =>
     cases d' with
     | list ys =>
      cases h1 with
      | lst hF1 hr1 =>
        cases h2 with
        | lst hF2 hr2 =>
          rename_i a1 v1 a2 v2
          have q1 : SqL X.K H1 a1 v1 := SqL.of (k1.FH _ _ hF1)
          have q2 : SqL X.K H1 a2 v2 := SqL.of (k1.FH _ _ hF2)
          have hl : (zipD xs ys).length = min xs.length ys.length := by unfold zipD; rw [List.length_zipWith]
          refine ⟨a1, a2, v1, v2, rfl, q1, q2, po_ok p2 k1 _ (fun g F w H i k la => ?_) ?_⟩
          · have q1 : SqL X.K H a1 v1 := SqL.of (k.FH _ _ (la.2 _ _ hF1))
            have q2 : SqL X.K H a2 v2 := SqL.of (k.FH _ _ (la.2 _ _ hF2))
            refine ⟨fun d hd => ?_, fun h => ⟨v1, v2, q1, q2, ?_⟩⟩
            · unfold zipD at hd
              rw [List.getElem?_zipWith] at hd
              cases ex : xs[i]? with
              | none => rw [ex] at hd; cases hd
              | some x =>
                cases ey : ys[i]? with
                | none => rw [ex, ey] at hd; cases hd
                | some y =>
                  rw [ex, ey] at hd
                  cases hd
                  obtain ⟨u1, r1, r2⟩ := hr1.get ex
                  obtain ⟨u2, r3, r4⟩ := hr2.get ey
                  refine ⟨⟨v1, v2, u1, u2, q1, q2, r1, r3⟩, fun x' H' yl => ?_⟩
                  obtain ⟨T, x1, x2, rfl, hT, rfl, f1, f2⟩ := yl
                  have e1 := (f1 v1 q1).symm.trans r1
                  have e2 := (f2 v2 q2).symm.trans r3
                  cases e1
                  cases e2
                  have hFT := (k.fresh hT).2
                  have up : ∀ a o, F a = some o → upd F T (.tup [u1, u2]) a = some o := fun a o z => by rw [upd_ne (ne_of_none z hFT)]; exact z
                  exact ⟨upd F T (.tup [u1, u2]), Ext.new hT hFT, k.new hT, .tup upd_same (.cons ((r2.mono la.gg la.FF).mono List.prefix_rfl up) (.cons ((r4.mono la.gg la.FF).mono List.prefix_rfl up) .nil))⟩
            · rw [hl] at h
              rw [hr1.length, hr2.length]
              omega
          · have := hlen a1 v1 (by simp) q1
            rw [hr1.length] at this
            omega
     | _ => exact p2.elim
    | _ => exact p2.elim
theorem di_enum {a : Expr} {fs : DL.X (List D)} {p tpos : Pos} {elts : List Expr} {kk : Nat} (hg : Gl X "enumerate") (hm : X.mg "enumerate" = none) (ha : DA κ W X [RD] [a] fs) (hs : starEach [a] X.env = [(false, eval a X.env)] := by rfl) :
    DI κ W X false (.Tuple elts kk tpos) (.Call (.Name "enumerate" p) [a] [] pos) (fun ρ => M.bind (fs ρ) kEnum) :=
  PI.weak (pi_enum hg hm (PA.len ha) hs) fun σ H R ⟨g, F, own, ρ, w, lr, p⟩ => by
    refine ⟨g, F, own, ρ, w, lr, (po_bind p).mono fun ds g1 F1 w1 H1 e1 k1 p1 vs hv hlen => ?_⟩
    have p2 := p1 e1
    obtain ⟨v, d, rfl, rfl, h1⟩ := rpr1 hv
    cases d with
    | list xs =>
      cases h1 with
      | lst hF1 hr1 =>
        rename_i a1 v1
        have q1 : SqL X.K H1 a1 v1 := SqL.of (k1.FH _ _ hF1)
        refine ⟨a1, v1, rfl, q1, po_ok p2 k1 _ (fun g F w H i k la => ?_) ?_⟩
        · have q1 : SqL X.K H a1 v1 := SqL.of (k.FH _ _ (la.2 _ _ hF1))
          refine ⟨fun d hd => ?_, fun h => ⟨v1, q1, ?_⟩⟩
          · obtain ⟨x, ex, rfl⟩ := enumD_get xs 0 i d hd
            obtain ⟨u1, r1, r2⟩ := hr1.get ex
            refine ⟨⟨v1, u1, q1, r1⟩, fun x' H' yl => ?_⟩
            obtain ⟨T, x1, rfl, hT, rfl, f1⟩ := yl
            have e1 := (f1 v1 q1).symm.trans r1
            cases e1
            have hFT := (k.fresh hT).2
            have up : ∀ a o, F a = some o → upd F T (.tup [.int (i : Int), u1]) a = some o := fun a o z => by rw [upd_ne (ne_of_none z hFT)]; exact z
            refine ⟨upd F T (.tup [.int (i : Int), u1]), Ext.new hT hFT, k.new hT, .tup upd_same (.cons ?_ (.cons ((r2.mono la.gg la.FF).mono List.prefix_rfl up) .nil))⟩
            rw [Nat.zero_add]
            exact .int _
          · rw [enumD_length] at h
            rw [hr1.length]
            exact h
        · have := hlen a1 v1 (by simp) q1
          rw [hr1.length] at this
          rw [enumD_length]
          exact this
    | _ => exact p2.elim
end

/-! ### for -/
/-- what was there, and what is frozen since -/
def jn (H F : Hp) : Hp := fun a => match F a with
  | some o => some o
  | none => H a
theorem jn_none {H F : Hp} {a : Addr} (h : jn H F a = none) : F a = none ∧ H a = none := by
  unfold jn at h
  cases e : F a with
  | none => rw [e] at h; exact ⟨rfl, h⟩
  | some o => rw [e] at h; cases h
theorem jn_of {H F : Hp} {a : Addr} (h1 : F a = none) (h2 : H a = none) : jn H F a = none := by
  unfold jn
  rw [h1]
  exact h2
section
variable {κ : Kn} {W : WX} {g0 g g' : List Addr} {F0 H0 F F' H H' : Hp} {w w' : W'} {own own' : Nat → Addr} {ρ ρ' : List Slot} {σ σ' : L2.St} {E : Ends}
theorem Sr.adv (s : Sr κ g0 F0 H0 g F own ρ w σ H) : Sr κ g F (jn H0 F) g F own ρ w σ H := ⟨s.lr, ⟨List.prefix_rfl, fun _ _ h => h, fun a o h n => by
    unfold jn at h
    cases e : F a with
    | none => rw [e] at h; exact s.ex.keep a o h fun z => n (s.ex.gg.subset z)
    | some u => rw [e] at h; cases h; exact s.lr.wk.FH a _ e, fun a h => jn_of (by
      cases e : F a with
      | none => rfl
      | some u => rw [s.lr.wk.FH a u e] at h; cases h) (s.ex.there a h), fun _ _ h => h, fun _ h => .inl h⟩, fun i xs h m => jn_of (by
      have q := s.lr.slots i _ h
      cases xs with
      | un => cases m
      | d x => cases m
      | own xs => exact q.2.1
      | dc kvs => exact q.2.1) (s.ow i xs h m)⟩
theorem Ext.from (e : Ext g0 F0 H0 g F H) (FH : ∀ a o, F a = some o → H a = some o) (e' : Ext g F (jn H0 F) g' F' H') : Ext g0 F0 H0 g' F' H' where
  gg := e.gg.trans e'.gg
  FF := fun a o h => e'.FF a o (e.FF a o h)
  keep := fun a o h n => by
    refine e'.keep a o ?_ fun z => ?_
    · unfold jn
      cases q : F a with
      | none => exact h
      | some u =>
        have h1 := FH a u q
        rw [e.keep a o h n] at h1
        exact h1.symm
    · rcases e.newg a z with y | y
      · exact n y
      · rw [h] at y; cases y
  there := fun a h => (jn_none (e'.there a h)).2
  newF := fun a h f => by
    refine e.newF a h (e'.newF a (fun z => h (jn_none z).2) f)
  newg := fun a h => by
    rcases e'.newg a h with y | y
    · exact e.newg a y
    · exact .inr (jn_none y).2
theorem Sr.from (e : Ext g0 F0 H0 g F H) (FH : ∀ a o, F a = some o → H a = some o) (s : Sr κ g F (jn H0 F) g' F' own' ρ' w' σ' H') : Sr κ g0 F0 H0 g' F' own' ρ' w' σ' H' :=
  ⟨s.lr, e.from FH s.ex, fun i xs h m => (jn_none (s.ow i xs h m)).2⟩
end
def forF (t : Tgt) (body : Sm) : List D → Sm
  | [], ρ, w => .nx ρ w
  | d :: r, ρ, w => match t.set d ρ with
    | none => .bad
    | some ρ1 => match body ρ1 w with
      | .nx ρ2 w2 => forF t body r ρ2 w2
      | .ct ρ2 w2 => forF t body r ρ2 w2
      | .bk ρ2 w2 => .nx ρ2 w2
      | .ret d w2 => .ret d w2
      | .err c ρ2 w2 => .err c ρ2 w2
      | .bad => .bad
def sFor (fi : X (List D)) (t : Tgt) (body : Sm) : Sm := fun ρ w => (fi ρ w).to ρ fun ds w => forF t body ds ρ w
section
variable {κ : Kn} {W : WX} {X : Cx} {tg iter : Expr} {body : List Stmt} {fi : DL.X (List D)} {t : Tgt} {f : Sm} {pos : Pos}
theorem ds_for (hp : PassesOwn (model X.prog X.w) X.A X.env X.xe) (hc : X.calm = true) (hi : DI κ W X false tg iter fi) (hg : DG X tg t) (hb : DSs κ W X body f)
    (hs : ∀ x, foldedSetIterable iter X.env x = pure x := by intro _; rfl) : DS κ W X (.For tg iter body [] pos) (sFor fi t f) := PS.weak (ps_for hp hc hi hg hb hs) fun E σ H ⟨g0, F0, H0, g, F, own, ρ, w, s, p⟩ => by
  refine ⟨g, F, own, ρ, w, s.lr, (po_to s p).mono fun ds g1 F1 w1 H1 e1 k1 p1 J walk hlen => ?_⟩
  have p2 := p1 e1
  have s1 := s.ext e1 k1
  have FH1 := k1.FH
  refine ⟨fun i m σ H => m = ds.length - i ∧ i ≤ ds.length ∧ ∃ g F own ρ w, Sr κ g1 F1 (jn H0 F1) g F own ρ w σ H ∧ PoS κ W g0 F0 H0 E (forF t f (ds.drop i) ρ w), ⟨_, rfl, Nat.zero_le _, g1, F1, own, ρ, w1, s1.adv, p2⟩, ?_⟩
  rintro i m σ2 H2 ⟨rfl, hi, g2, F2, own2, ρ2, w2, s2, p3⟩
  obtain ⟨go, stop⟩ := walk g2 F2 w2 H2 i s2.lr.wk ⟨s2.ex.gg, s2.ex.FF⟩
  by_cases hlt : i < ds.length
  · have hd : ds[i]? = some ds[i] := List.getElem?_eq_getElem hlt
    obtain ⟨go, yld⟩ := go _ hd
    refine .inr ⟨go, fun σ' H' => ∃ g F own ρ w, Sr κ g1 F1 (jn H0 F1) g F own ρ w σ' H' ∧ PoS κ W g0 F0 H0 E (forF t f (ds.drop (i + 1)) ρ w), fun σ' H' ⟨g, F, own, ρ, w, a, b⟩ => ⟨ds.length - (i + 1), by omega, rfl, hlt, g, F, own, ρ, w, a, b⟩, fun x H' y => ?_⟩
    obtain ⟨F3, e3, k3, r3⟩ := yld x H' y
    have s3 := s2.ext e3 k3
    rw [List.drop_eq_getElem_cons hlt] at p3
    unfold forF at p3
    cases ht : t.set ds[i] ρ2 with
    | none => rw [ht] at p3; exact p3.elim
    | some ρ3 =>
      rw [ht] at p3
      dsimp only at p3
      refine put_of (g0 := g0) (F0 := F0) (H0 := H0) s3.lr r3 ht fun σ3 l3 _ _ => ?_
      refine ⟨g1, F1, jn H0 F1, g2, F3, own2, ρ3, w2, ⟨l3, s3.ex, fun j xs ej m => s3.ow j xs (set_own ht ej m) m⟩, ?_⟩
      cases hb : f ρ3 w2 with
      | nx ρ4 w4 => rw [hb] at p3; exact fun g F own σ H s => ⟨g, F, own, ρ4, w4, s, p3⟩
      | ct ρ4 w4 => rw [hb] at p3; exact fun g F own σ H s => ⟨g, F, own, ρ4, w4, s, p3⟩
      | bk ρ4 w4 => rw [hb] at p3; exact fun g F own σ H s => p3 g F own σ H (Sr.from s1.ex FH1 s)
      | ret d w4 => rw [hb] at p3; exact fun g F H v e k r => p3 g F H v (s1.ex.from FH1 e) k r
      | err c ρ4 w4 => rw [hb] at p3; exact fun g F own σ H s => p3 g F own σ H (Sr.from s1.ex FH1 s)
      | bad => rw [hb] at p3; exact p3.elim
  · have e : i = ds.length := by omega
    subst e
    rw [List.drop_length] at p3
    exact .inl ⟨stop (Nat.le_refl _), p3 g2 F2 own2 σ2 H2 (Sr.from s1.ex FH1 s2)⟩
/-! ### while -/
def whF (ft : DL.X Bool) (body : Sm) : Nat → Sm
  | 0, _, _ => .bad
  | n + 1, ρ, w => (ft ρ w).to ρ fun b w => if b then (match body ρ w with
      | .nx ρ2 w2 => whF ft body n ρ2 w2
      | .ct ρ2 w2 => whF ft body n ρ2 w2
      | .bk ρ2 w2 => .nx ρ2 w2
      | .ret d w2 => .ret d w2
      | .err c ρ2 w2 => .err c ρ2 w2
      | .bad => .bad) else .nx ρ w
def sWhile (ft : DL.X Bool) (body : Sm) : Sm := whF ft body 1000
theorem ds_while {c : Expr} {ft : DL.X Bool} (hp : PassesOwn (model X.prog X.w) X.A X.env X.xe) (hc : DT κ W X c ft) (hb : DSs κ W X body f) : DS κ W X (.While c body [] pos) (sWhile ft f) := PS.weak (ps_while hp hc hb) fun E σ H ⟨g0, F0, H0, g, F, own, ρ, w, s, p⟩ => by
  refine ⟨fun m σ H => ∃ g F own ρ w, Sr κ g0 F0 H0 g F own ρ w σ H ∧ PoS κ W g0 F0 H0 E (whF ft f m ρ w), ⟨1000, g, F, own, ρ, w, s, p⟩, ?_⟩
  rintro m σ2 H2 ⟨g2, F2, own2, ρ2, w2, s2, p2⟩
  cases m with
  | zero => exact p2.elim
  | succ m =>
    refine ⟨g2, F2, own2, ρ2, w2, s2.lr, (po_to s2 p2).mono fun b g3 F3 w3 H3 e3 k3 p3 => ?_⟩
    have s3 := s2.ext e3 k3
    have p4 := p3 e3
    cases b with
    | true =>
      rw [if_pos rfl] at p4
      refine iteT ⟨fun σ' H' => ∃ g F own ρ w, Sr κ g0 F0 H0 g F own ρ w σ' H' ∧ PoS κ W g0 F0 H0 E (whF ft f m ρ w), fun σ' H' q => ⟨m, Nat.lt_succ_self m, q⟩, g0, F0, H0, g3, F3, own2, ρ2, w3, s3, ?_⟩
      cases hb : f ρ2 w3 with
      | nx ρ4 w4 => rw [hb] at p4; exact fun g F own σ H s => ⟨g, F, own, ρ4, w4, s, p4⟩
      | ct ρ4 w4 => rw [hb] at p4; exact fun g F own σ H s => ⟨g, F, own, ρ4, w4, s, p4⟩
      | bk ρ4 w4 => rw [hb] at p4; exact p4
      | ret d w4 => rw [hb] at p4; exact p4
      | err c ρ4 w4 => rw [hb] at p4; exact p4
      | bad => rw [hb] at p4; exact p4.elim
    | false =>
      rw [if_neg Bool.false_ne_true] at p4
      exact iteF (p4 g3 F3 own2 σ2 H3 s3)
/-! ### raise -/
def sErr (c : Str) : Sm := fun ρ w => .err c ρ w
theorem ds_raise {x m : Str} {C : Addr} {bmB : List Value} {B newId initId : String} {j : Nat} {p p2 pos2 : Pos} (hec : κ.ec x = C) (hc : X.calm = true) (tk : Takes X W) (q : ExcBaseFacts B newId initId bmB) (hx : PySem.W.excIn X.K C bmB newId = true) (gC : X.mg x = some (.ref C)) (kC : PySem.W.keepIn X.K (.ref C) = true) (r : Raises X (.ref C)) (hg : Gl X x)
    (hdb : (x == ("__debug__" : Str)) = false := by decide) : DS κ W X (.Raise (some (.Call (.Name x p) [.Constant (.str m) j p2] [] pos)) none pos2) (sErr x) := PS.weak (ps_raise hc tk (pmk_own q hx gC kC r hg hdb)) fun E σ H ⟨g0, F0, H0, g, F, own, ρ, w, s, p⟩ => by
  have z := p g F own σ H s
  rw [hec] at z
  exact z
end

/-! ### comprehensions -/
abbrev Wb : WX := fun _ _ _ _ => False
theorem takesB {X : Cx} : Takes X Wb := takes0
theorem po_Wb {κ : Kn} {g F H σ σ'} {α : Type} {r : Res α} {Kk : KE α} (p : Po κ Wb g F H σ r Kk) : Po κ Wb g F H σ' r Kk := by
  cases r with
  | ok a w => exact p
  | err c w => exact p
  | bad => exact p
def M.nerr {α : Type} (m : M α) : M α := fun w => match m w with
  | .ok a w => .ok a w
  | _ => .bad
theorem po_nerr {κ : Kn} {W : WX} {g F H σ σ' w} {α : Type} {m : M α} {Kk : KE α} (p : Po κ W g F H σ (M.nerr m w) Kk) : Po κ Wb g F H σ' (m w) Kk := by
  unfold M.nerr at p
  cases e : m w with
  | ok a w => rw [e] at p; exact p
  | err c w => rw [e] at p; exact p.elim
  | bad => rw [e] at p; exact p.elim
theorem po_adv {κ : Kn} {W : WX} {g F H g' F' H' σ} {α : Type} {r : Res α} {Kk : KE α} (p : Po κ W g F H σ r Kk) (e : Ext g F H g' F' H') : Po κ W g' F' H' σ r Kk := by
  cases r with
  | ok a w => exact fun g2 F2 H2 e2 k2 => p g2 F2 H2 (e.trans e2) k2
  | err c w => exact fun g2 F2 H2 e2 k2 => p g2 F2 H2 (e.trans e2) k2
  | bad => exact p
/-- all but one object -/
def msk (H : Hp) (L : Addr) : Hp := fun a => if a = L then none else H a
theorem msk_ne {H : Hp} {L a : Addr} (h : a ≠ L) : msk H L a = H a := by unfold msk; rw [if_neg h]
theorem msk_eq {H : Hp} {L : Addr} : msk H L L = none := by unfold msk; rw [if_pos rfl]
theorem msk_some {H : Hp} {L a : Addr} {o : HO} (h : msk H L a = some o) : a ≠ L ∧ H a = some o := by
  by_cases e : a = L
  · subst e; rw [msk_eq] at h; cases h
  · rw [msk_ne e] at h; exact ⟨e, h⟩
theorem msk_no {H : Hp} {L a : Addr} (h : H a = none) : msk H L a = none := by
  by_cases e : a = L
  · subst e; exact msk_eq
  · rw [msk_ne e]; exact h
theorem msk_upd {H : Hp} {L : Addr} {o : HO} : msk (upd H L o) L = msk H L := by
  funext a
  by_cases e : a = L
  · subst e; rw [msk_eq, msk_eq]
  · rw [msk_ne e, msk_ne e, upd_ne e]
theorem msk_new {H : Hp} {L : Addr} (h : H L = none) : msk H L = H := by
  funext a
  by_cases e : a = L
  · subst e; rw [msk_eq, h]
  · rw [msk_ne e]
theorem upd_msk {H : Hp} {L : Addr} {o : HO} (h : H L = some o) : upd (msk H L) L o = H := by
  funext a
  by_cases e : a = L
  · subst e; rw [upd_same, h]
  · rw [upd_ne e, msk_ne e]
theorem Ext.msk {g F H g' F' H'} (e : Ext g F H g' F' H') (L : Addr) : Ext g F (DL.msk H L) g' F' (DL.msk H' L) where
  gg := e.gg
  FF := e.FF
  keep := fun a o h n => by
    obtain ⟨h1, h2⟩ := msk_some h
    rw [msk_ne h1]; exact e.keep a o h2 n
  there := fun a h => by
    by_cases q : a = L
    · subst q; exact msk_eq
    · rw [msk_ne q] at h ⊢; exact e.there a h
  newF := fun a h f => by
    by_cases q : a = L
    · subst q; exact absurd msk_eq h
    · rw [msk_ne q] at h; exact e.newF a h f
  newg := fun a h => by
    rcases e.newg a h with y | y
    · exact .inl y
    · exact .inr (msk_no y)
theorem po_bindB {κ : Kn} {g F H σ σ' w} {α β : Type} {L : Addr} {m : M α} {f : α → M β} {K : KE β} (h : Po κ Wb g F (msk H L) σ (M.bind m f w) K) (hL : ∃ o, H L = some o) (hF : F L = none) (k : Wk κ g F w H) :
    Po κ Wb g F H σ' (m w) (fun a g1 F1 w1 H1 => Ext g F H g1 F1 H1 → Po κ Wb g1 F1 (msk H1 L) σ (f a w1) K) := by
  unfold M.bind at h
  cases e : m w with
  | ok a w1 =>
    rw [e] at h
    exact fun g1 F1 H1 x k x' => po_adv h (x.msk L)
  | err c w1 =>
    rw [e] at h
    obtain ⟨o, ho⟩ := hL
    refine fun g1 F1 H1 x k => h g1 F1 H1 (Ext.trans (Ext.hid (o := o) msk_eq) ?_) k
    rw [upd_msk ho]
    exact x
  | bad =>
    rw [e] at h
    exact h.elim
def wipeS (ρ : List Slot) : List Nat → List Slot
  | [] => ρ
  | v :: vs => (wipeS ρ vs).set v .un
def compF (ρ1 : List Slot) (t : Tgt) (ft : X Bool) (fe : X D) : List D → List D → M D
  | [], acc => M.pure (.list acc)
  | d :: r, acc => match t.set d ρ1 with
    | none => M.bad
    | some ρ2 => M.bind (ft ρ2) fun b => if b then M.bind (fe ρ2) fun y => compF ρ1 t ft fe r (acc ++ [y]) else compF ρ1 t ft fe r acc
def xLc (vs : List Nat) (t : Tgt) (fi : X (List D)) (ft : X Bool) (fe : X D) : X D := fun ρ => M.bind (fi ρ) fun ds => M.nerr (compF (wipeS ρ vs) t ft fe ds [])
def xYes : X Bool := fun _ => M.pure true
abbrev DTs (κ : Kn) (W : WX) (X : Cx) (ifs : List Expr) (f : DL.X Bool) : Prop := PTs X ifs (tTt κ W f)
section
variable {κ : Kn} {W : WX} {X : Cx}
theorem PTs.weak {ifs : List Expr} {t t' : TT} (h : PTs X ifs t) (i : ∀ σ H Q, t' σ H Q → t σ H Q) : PTs X ifs t' := ⟨fun pins s σ H Q I q => h.run pins s σ H Q I (i σ H Q q)⟩
theorem dts_nil : DTs κ W X [] xYes := PTs.weak pts_nil fun σ H Q ⟨g, F, own, ρ, w, lr, p⟩ => po_ok p lr.wk
theorem dts_one {c : Expr} {f : DL.X Bool} (h : DT κ W X c f) : DTs κ W X [c] f := pts_one h
theorem Lr.wipe {g F H own ρ w σ} : ∀ (vs : List Nat), Lr κ g F own ρ w σ H → Lr κ g F own (wipeS ρ vs) w (L2.wipe σ vs) H
  | [], r => r
  | v :: vs, r => (Lr.wipe vs r).setU
theorem wipe_get (σ : L2.St) : ∀ (vs : List Nat) (j : Nat), (L2.wipe σ vs)[j]? = if j ∈ vs then σ[j]?.map (fun _ => none) else σ[j]?
  | [], j => by simp [L2.wipe]
  | v :: vs, j => by
    unfold L2.wipe
    by_cases e : v = j
    · subst e
      rw [if_pos List.mem_cons_self]
      by_cases h : v < σ.length
      · rw [List.getElem?_set_self (by rw [L2.wipe_length]; exact h), List.getElem?_eq_getElem h]
        rfl
      · rw [List.getElem?_eq_none (by rw [List.length_set, L2.wipe_length]; omega), List.getElem?_eq_none (by omega)]
        rfl
    · rw [List.getElem?_set_ne e, wipe_get σ vs j]
      by_cases h : j ∈ vs
      · rw [if_pos h, if_pos (List.mem_cons_of_mem _ h)]
      · rw [if_neg h, if_neg (fun z => (List.mem_cons.mp z).elim (fun q => e q.symm) h)]
theorem wipe_same {σ σ' : L2.St} {vs : List Nat} (hl : σ'.length = σ.length) (h : ∀ j, j ∉ vs → σ'[j]? = σ[j]?) : L2.wipe σ' vs = L2.wipe σ vs := by
  apply List.ext_getElem?
  intro j
  rw [wipe_get, wipe_get]
  by_cases e : j ∈ vs
  · rw [if_pos e, if_pos e]
    by_cases q : j < σ.length
    · rw [List.getElem?_eq_getElem q, List.getElem?_eq_getElem (by omega)]
      rfl
    · rw [List.getElem?_eq_none (by omega), List.getElem?_eq_none (by omega)]
  · rw [if_neg e, if_neg e]
    exact h j e
def Tgt.idx : Tgt → List Nat
  | .nm i => [i]
  | .tp is => is
theorem Lr.hid {g F H own ρ w σ} {p : Addr} {o : HO} (r : Lr κ g F own ρ w σ H) (h1 : p ∉ g) (h2 : F p = none) (h3 : ∀ j xs, ρ[j]? = some xs → xs.mine = true → own j ≠ p) : Lr κ g F own ρ w σ (upd H p o) where
  wk := r.wk.hid h1 h2
  len := r.len
  slots := fun j s e => by
    have := r.slots j s e
    cases s with
    | un => trivial
    | d x => exact this
    | own xs =>
      obtain ⟨q1, q2, q3, ws, q4, q5⟩ := this
      exact ⟨q1, q2, q3, ws, by rw [upd_ne (h3 j _ e rfl)]; exact q4, q5⟩
    | dc kvs =>
      obtain ⟨q1, q2, q3, q4⟩ := this
      exact ⟨q1, q2, q3, by rw [upd_ne (h3 j _ e rfl)]; exact q4⟩
  owns := r.owns
theorem wipeS_own {ρ : List Slot} {j : Nat} {xs : List D} : ∀ {vs : List Nat}, (wipeS ρ vs)[j]? = some (.own xs) → ρ[j]? = some (.own xs)
  | [], h => h
  | v :: vs, h => by
    unfold wipeS at h
    rcases get_set h with ⟨_, z⟩ | ⟨_, z⟩
    · cases z
    · exact wipeS_own z
theorem lc_read {K : PySem.W.Frag} {vs : List Nat} {t : Tgt} {fi : DL.X (List D)} {ft : DL.X Bool} {fe : DL.X D} (hidx : ∀ i ∈ t.idx, i ∈ vs) {σ : L2.St} {H : Hp} {Q : VK} (h : tE κ W RN (xLc vs t fi ft fe) σ H Q) :
    tLc (tI κ W true fi) (putV t K) (tTt κ Wb ft) (tE κ Wb RD fe) vs σ H Q := by
  obtain ⟨g, F, own, ρ, w, lr, p⟩ := h
  refine ⟨g, F, own, ρ, w, lr, (po_bind p).mono fun ds g1 F1 w1 H1 e1 k1 p1 J walk hlen L hL => ?_⟩
  have p2 := po_nerr (σ' := σ) (p1 e1)
  have l1 := (lr.ext e1 k1).wipe vs
  have hF1 := (k1.fresh hL).2
  have hg1 := (k1.fresh hL).1
  have hown : ∀ j xs, (wipeS ρ vs)[j]? = some xs → xs.mine = true → own j ≠ L := l1.not_new hL
  refine ⟨fun i m H2 => m = ds.length - i ∧ i ≤ ds.length ∧ ∃ g F w acc va, Lr κ g F own (wipeS ρ vs) w (L2.wipe σ vs) H2 ∧ Ext g1 F1 H1 g F H2 ∧ H2 L = some (.lst va) ∧ RpL g F va acc ∧ L ∉ g ∧ F L = none ∧ acc.length ≤ i ∧
    Po κ Wb g F (msk H2 L) σ (compF (wipeS ρ vs) t ft fe (ds.drop i) acc w) (fun d g' F' _ H' => ∀ v, RN g' F' H H' v d → Q v H'), ⟨_, rfl, Nat.zero_le _, g1, F1, w1, [], [], l1.hid hg1 hF1 hown, Ext.hid hL, upd_same, .nil, hg1, hF1, Nat.le_refl _, by rw [msk_upd, msk_new hL]; exact p2⟩, ?_⟩
  rintro i m H2 ⟨rfl, hi, g2, F2, w2, acc, va, l2, x2, hL2, ra, hg2, hF2, hacc, p3⟩
  obtain ⟨go, stop⟩ := walk g2 F2 w2 H2 i l2.wk x2
  by_cases hlt : i < ds.length
  · have hd : ds[i]? = some ds[i] := List.getElem?_eq_getElem hlt
    obtain ⟨go, yld⟩ := go _ hd
    refine .inr ⟨go, fun H' => i + 1 ≤ ds.length ∧ ∃ g F w acc va, Lr κ g F own (wipeS ρ vs) w (L2.wipe σ vs) H' ∧ Ext g1 F1 H1 g F H' ∧ H' L = some (.lst va) ∧ RpL g F va acc ∧ L ∉ g ∧ F L = none ∧ acc.length ≤ i + 1 ∧
      Po κ Wb g F (msk H' L) σ (compF (wipeS ρ vs) t ft fe (ds.drop (i + 1)) acc w) (fun d g' F' _ H' => ∀ v, RN g' F' H H' v d → Q v H'), fun H' q => ⟨ds.length - (i + 1), by omega, rfl, q⟩, fun x H' y => ?_⟩
    obtain ⟨F3, x3, k3, r3⟩ := yld x H' y
    have l3 := l2.ext x3 k3
    rw [List.drop_eq_getElem_cons hlt] at p3
    unfold compF at p3
    have h3 : H' L = some (.lst va) := x3.keep _ _ hL2 hg2
    have hF3 : F3 L = none := by
      cases q : F3 L with
      | none => rfl
      | some o => exact absurd hF2 (x3.newF L (by rw [hL2]; exact fun z => nomatch z) (by rw [q]; exact fun z => nomatch z))
    have live : ∀ {gg FF HH}, Ext g2 F3 H' gg FF HH → HH L = some (.lst va) ∧ L ∉ gg ∧ FF L = none := fun {gg FF HH} e => by
      refine ⟨e.keep _ _ h3 hg2, fun z => ?_, ?_⟩
      · rcases e.newg L z with y | y
        · exact hg2 y
        · rw [h3] at y; cases y
      · cases q : FF L with
        | none => rfl
        | some o => exact absurd hF3 (e.newF L (by rw [h3]; exact fun z => nomatch z) (by rw [q]; exact fun z => nomatch z))
    cases ht : t.set ds[i] (wipeS ρ vs) with
    | none => rw [ht] at p3; exact p3.elim
    | some ρ3 =>
      rw [ht] at p3
      dsimp only at p3
      refine put_of (g0 := g1) (F0 := F1) (H0 := H1) l3 r3 ht fun σ3 l4 hs hl => ?_
      refine ⟨?_, ?_⟩
      · rw [wipe_same (σ := L2.wipe σ vs) (σ' := σ3) hl fun j hj => hs j (fun i e z => hj (z ▸ hidx i (by rw [e]; exact List.mem_cons_self))) fun is e z => hj (hidx j (by rw [e]; exact z))]
        exact wipe_same (L2.wipe_length _ _) fun j hj => by rw [wipe_get, if_neg hj]
      have x23 := x2.trans x3
      have p3' := po_adv p3 (x3.msk L)
      refine ⟨g2, F3, own, ρ3, w2, l4, (po_bindB (σ' := σ3) p3' ⟨_, h3⟩ hF3 k3).mono fun b g4 F4 w4 H4 x4 k4 p4 => ?_⟩
      have p5 := p4 x4
      have x24 := x23.trans x4
      have l5 := l3.ext x4 k4
      obtain ⟨a1, a2, a3⟩ := live x4
      cases b with
      | true =>
        rw [if_pos rfl] at p5
        refine iteT ⟨g4, F4, own, ρ3, w4, l4.ext x4 k4, (po_bindB (σ' := σ3) p5 ⟨_, a1⟩ a3 k4).mono fun yd g6 F6 w6 H6 x6 k6 p6 yv hy => ?_⟩
        obtain ⟨a1, a2, a3⟩ := live (x4.trans x6)
        refine ⟨va, a1, ?_, hlt, g6, F6, w6, acc ++ [yd], va ++ [yv], (l5.ext x6 k6).hid a2 a3 hown, (x24.trans x6).poke hL, upd_same, ((ra.mono (x3.gg.trans (x4.gg.trans x6.gg)) fun a o z => x6.FF a o (x4.FF a o (x3.FF a o z))).append (.cons hy .nil)), a2, a3, by rw [List.length_append]; simp; omega, ?_⟩
        · rw [ra.length]; omega
        · rw [msk_upd]; exact p6 x6
      | false =>
        rw [if_neg Bool.false_ne_true] at p5
        exact iteF ⟨hlt, g4, F4, w4, acc, va, l5, x24, a1, ra.mono (x3.gg.trans x4.gg) fun a o z => x4.FF a o (x3.FF a o z), a2, a3, by omega, p5⟩
  · have e : i = ds.length := by omega
    subst e
    rw [List.drop_length] at p3
    have p4 : Po κ Wb g2 F2 H2 σ _ _ := po_adv p3 (by
      have q : Ext g2 F2 (msk H2 L) g2 F2 (upd (msk H2 L) L (.lst va)) := Ext.hid msk_eq
      rw [upd_msk hL2] at q
      exact q)
    exact .inl ⟨stop (Nat.le_refl _), po_ok p4 l2.wk _ ⟨L, va, acc, rfl, rfl, e1.there L hL, hF2, hg2, hL2, ra⟩⟩
variable {elt tg iter : Expr} {ifs : List Expr} {scope : Scope} {own : List (Str × Nat)} {pos : Pos} {t : Tgt} {fi : DL.X (List D)} {ft : DL.X Bool} {fe : DL.X D}
theorem de_lc (hc : X.calm = true) (hN : X.N.Nodup) (hi : DI κ W X true tg iter fi) (ok : BlkOk X.N X.env.scope scope own) (hidx : ∀ i ∈ t.idx, i ∈ own.map (·.2))
    (hg : ∀ (s : Shared) (H : Hp) (C : Addr) (cl : List (Str × Addr)) (fp : List Addr), DG (X.blk s H scope (compEnvC scope cl C X.env) fp) tg t) (ht : ∀ (s : Shared) (H : Hp) (C : Addr) (cl : List (Str × Addr)) (fp : List Addr), DTs κ Wb (X.blk s H scope (compEnvC scope cl C X.env) fp) ifs ft)
    (he : ∀ (s : Shared) (H : Hp) (C : Addr) (cl : List (Str × Addr)) (fp : List Addr), DE κ Wb (X.blk s H scope (compEnvC scope cl C X.env) fp) RD elt fe) (hs : ∀ x, foldedSetIterable iter X.env x = pure x := by intro _; rfl) :
    DE κ W X RN (.ListComp elt [⟨tg, iter, ifs, 0⟩] scope pos) (xLc (own.map (·.2)) t fi ft fe) := PE.weak (pe_lc hc hN hi ok hg ht he hs) fun σ H Q h => lc_read hidx h
theorem ps_lc {i : Nat} {y : Str} {py spos : Pos} (hc : X.calm = true) (hN : X.N.Nodup) (hy : X.N[i]? = some y) (hyl : X.env.scope.names.lookup y = some .local)
    (hsw : swapsWith (.ListComp elt [⟨tg, iter, ifs, 0⟩] scope pos) (some (.Name y py)) spos.line X.env = pure true) (hi : DI κ W X true tg iter fi) (ok : BlkOk X.N X.env.scope scope own) (hidx : ∀ i ∈ t.idx, i ∈ own.map (·.2))
    (hg : ∀ (s : Shared) (H : Hp) (C : Addr) (cl : List (Str × Addr)) (fp : List Addr), DG (X.blk s H scope (compEnvC scope cl C X.env) fp) tg t) (ht : ∀ (s : Shared) (H : Hp) (C : Addr) (cl : List (Str × Addr)) (fp : List Addr), DTs κ Wb (X.blk s H scope (compEnvC scope cl C X.env) fp) ifs ft)
    (he : ∀ (s : Shared) (H : Hp) (C : Addr) (cl : List (Str × Addr)) (fp : List Addr), DE κ Wb (X.blk s H scope (compEnvC scope cl C X.env) fp) RD elt fe) (hs : ∀ x, foldedSetIterable iter X.env x = pure x := by intro _; rfl) :
    PS X (.Assign [.Name y py] (.ListComp elt [⟨tg, iter, ifs, 0⟩] scope pos) spos) (tAsg (tLc (tI κ W true fi) (putV t X.K) (tTt κ Wb ft) (tE κ Wb RD fe) (own.map (·.2))) (gName i)) := ps_setLc hc hN hy hyl hsw hi ok hg ht he hs
theorem seal_read {te : TE} {f : DL.X D} (he : ∀ σ H Q, tE κ W RN f σ H Q → te σ H Q) : ∀ σ H Q, tE κ W RD f σ H Q → te σ H Q := fun σ H Q ⟨g, F, own, ρ, w, r, p⟩ => he σ H Q (by
  refine ⟨g, F, own, ρ, w, r, ?_⟩
  revert p
  cases f ρ w with
  | ok d w' =>
    intro p g' F' H' e k v hv
    obtain ⟨a, vs, ds, rfl, rfl, h0, hF, hg, hH, hr⟩ := hv
    exact p g' (upd F' a (.lst vs)) H' (e.seal h0 hF) (k.seal hg hF hH) _ (.lst upd_same (hr.mono List.prefix_rfl fun b o z => by rw [upd_ne (ne_of_none z hF)]; exact z))
  | err c w' => exact fun p => p
  | bad => exact fun p => p)
end

/-! ### defs -/
def runF (n : Nat) (body : Sm) : List D → M D := fun ds w => match body (ds.map Slot.d ++ List.replicate (n - ds.length) Slot.un) w with
  | .ret d w' => .ok d w'
  | .nx _ w' => .ok .none w'
  | .err c _ w' => .err c w'
  | _ => .bad
section
variable {P : Program} {w : World} {K : PySem.W.Frag} {mg : Str → Option Value} {base : Heap} {κ : Kn}
theorem start_lr {g : List Addr} {F H : Hp} {w : W'} {vs : List V} {ds : List D} {N : List Str} {own : Nat → Addr} (k : Wk κ g F w H) (hr : RpL g F vs ds) : Lr κ g F own (ds.map Slot.d ++ List.replicate (N.length - ds.length) Slot.un) w (L2.start N vs) H where
  wk := k
  len := by
    unfold L2.start
    rw [List.length_append, List.length_append, List.length_map, List.length_map, List.length_replicate, List.length_replicate, hr.length]
  slots := fun i s e => by
    by_cases h : i < ds.length
    · rw [List.getElem?_append_left (by simpa using h), List.getElem?_map, List.getElem?_eq_getElem h] at e
      cases e
      obtain ⟨v, h1, h2⟩ := hr.get (List.getElem?_eq_getElem h)
      refine ⟨v, ?_, h2⟩
      unfold L2.start
      rw [List.getElem?_append_left (by rw [List.length_map, hr.length]; exact h), List.getElem?_map, h1]
      rfl
    · rw [List.getElem?_append_right (by simpa using h), List.getElem?_replicate] at e
      split at e
      · cases e; trivial
      · cases e
  owns := fun i j xs ys e _ m _ _ => by
    by_cases h : i < ds.length
    · rw [List.getElem?_append_left (by simpa using h), List.getElem?_map, List.getElem?_eq_getElem h] at e
      cases e; cases m
    · rw [List.getElem?_append_right (by simpa using h), List.getElem?_replicate] at e
      split at e
      · cases e; cases m
      · cases e
theorem no_own {ds : List D} {n i : Nat} {xs : Slot} (e : (ds.map Slot.d ++ List.replicate n Slot.un)[i]? = some xs) (m : xs.mine = true) : False := by
  by_cases h : i < ds.length
  · rw [List.getElem?_append_left (by simpa using h), List.getElem?_map, List.getElem?_eq_getElem h] at e
    cases e; cases m
  · rw [List.getElem?_append_right (by simpa using h), List.getElem?_replicate] at e
    split at e
    · cases e; cases m
    · cases e
theorem dfn {x qual : Str} {st : Stmt} {f : Addr} {fd : FuncData} {N ps : List Str} {k : Nat} {body : Sm} (F : Fun K x qual st f fd) (S : FnScope N ps (defScope st))
    (hbody : ∀ (cdv : Value) (A : Around) (outer : List Env) (s : Shared) (H : Hp) (E : XK), Room k (A.deeper (envOfC qual (defScope st) s.heap.objs.size f cdv)) →
      DSs κ (fun c d _ H => E c d H) (cxOf (L2.CX P w) P w K mg base N qual (defScope st) f cdv A outer s H E) (defBody st) body) :
    FnOk P w K mg base (L2.CX P w) (k + 1) f fd ps (spD κ ps.length (runF N.length body)) := by
  refine F.okX S (fun vs H Q E h => ?_) (fun cdv A outer s H vs Q E hr h => ⟨_, hbody cdv A outer s H E hr, ?_⟩)
  · obtain ⟨g, F, w, ds, _, hr, hl, _⟩ := h
    rw [hr.length]; exact hl
  · obtain ⟨g, F, w, ds, k, hr, hl, p⟩ := h
    refine ⟨g, F, H, g, F, fun _ => 0, _, w, ⟨start_lr k hr, Ext.refl g F H, fun i xs e m => (no_own e m).elim⟩, ?_⟩
    unfold runF at p
    cases e : body (ds.map Slot.d ++ List.replicate (N.length - ds.length) Slot.un) w with
    | nx ρ w1 => rw [e] at p; exact fun g F own σ H s => p g F H s.ex s.lr.wk _ .non
    | ret d w1 => rw [e] at p; exact fun g F H v x k r => p g F H x k v r
    | err c ρ w1 => rw [e] at p; exact fun g F own σ H s => p g F H s.ex s.lr.wk
    | bk ρ w1 => rw [e] at p; exact p.elim
    | ct ρ w1 => rw [e] at p; exact p.elim
    | bad => rw [e] at p; exact p.elim
end
end DL

/-! The data layer, 6: what a printed walk leans on. -/
namespace DL
open PySem PySem.Spec PyProof.Rows L2
variable [Ec]
theorem hu65 {A : Around} {k : Nat} (hr : Room k A) : A.units + 65 < cLine := by have := hr.un; omega
theorem blk2 {N : List Str} {sc0 scope1 scope2 : Scope} {own : List (Str × Nat)} {cl : List (Str × Addr)} {C : Addr} {env : Env} (he : env.scope = sc0) (h : blkC N (relS scope1 sc0) scope2 own = true) : BlkOk N (compEnvC scope1 cl C env).scope scope2 own := by
  subst he
  exact blkOk_by h
theorem blk3 {N : List Str} {sc0 scope0 scope1 scope2 : Scope} {own : List (Str × Nat)} {cl cl' : List (Str × Addr)} {C C' : Addr} {env : Env} (he : env.scope = sc0) (h : blkC N (relS scope1 (relS scope0 sc0)) scope2 own = true) : BlkOk N (compEnvC scope1 cl C (compEnvC scope0 cl' C' env)).scope scope2 own := by
  subst he
  exact blkOk_by h
/-- a def that the text's top has laid, by its name and its mirror -/
def Cal (P : Program) (w : World) (K : PySem.W.Frag) (mg : Str → Option Value) (base : Heap) (κ : Kn) (x : Str) (k n : Nat) (m : List D → M D) : Prop :=
  ∃ (f : Addr) (fd : FuncData) (ps : List Str), FnOk P w K mg base (L2.CX P w) k f fd ps (spD κ n m) ∧ mg x = some (.ref f) ∧ PySem.W.keepIn K (.ref f) = true ∧ Binds K fd ps []
section
variable {P : Program} {w : World} {K : PySem.W.Frag} {mg : Str → Option Value} {base : Heap} {κ : Kn}
theorem Cal.of {x qual : Str} {st : Stmt} {f : Addr} {fd : FuncData} {ps : List Str} {k n : Nat} {m : List D → M D} (F : Fun K x qual st f fd) (hm : mg x = some (.ref f)) (hb : Binds K fd ps []) (h : FnOk P w K mg base (L2.CX P w) k f fd ps (spD κ n m)) : Cal P w K mg base κ x k n m :=
  ⟨f, fd, ps, h, hm, F.kp, hb⟩
theorem Cal.bad {x qual : Str} {st : Stmt} {f : Addr} {fd : FuncData} {ps : List Str} {k n : Nat} (F : Fun K x qual st f fd) (hm : mg x = some (.ref f)) (hb : Binds K fd ps []) : Cal P w K mg base κ x k n (fun _ => M.bad) :=
  ⟨f, fd, ps, ⟨fun vs H Q E h => by obtain ⟨_, _, _, _, _, _, _, p⟩ := h; exact p.elim, fun A outer s H args us vs Q E _ _ _ _ h => by obtain ⟨_, _, _, _, _, _, _, p⟩ := h; exact p.elim⟩, hm, F.kp, hb⟩
theorem Cal.mono {x : Str} {k j n : Nat} {m : List D → M D} (h : Cal P w K mg base κ x k n m) (hk : k ≤ j) : Cal P w K mg base κ x j n m := by
  obtain ⟨f, fd, ps, F, a, b, c⟩ := h
  exact ⟨f, fd, ps, F.mono hk, a, b, c⟩
end
section
variable {κ : Kn} {W : WX} {X : Cx} {Rs : List RelE} {es : List Expr} {fs : DL.X (List D)} {pos : Pos}
theorem de_callC [AllD Rs] {x : Str} {p : Pos} {e : Expr} {k j n : Nat} {m : List D → M D} (c : Cal X.prog X.w X.K X.mg X.base κ x k n m) (hr : Room j X.A) (hk : k ≤ j) (tk : Takes X W) (hg : Gl X x)
    (ha : DA κ W X Rs (e :: es) fs) (hn : Rs.length = n := by rfl) (hdb : (x == ("__debug__" : Str)) = false := by decide) (he : starEach (e :: es) X.env = (false, eval e X.env) :: starEach es X.env := by rfl) (hpl : (backTo pos (starEach es X.env)).any (·.1) = false := by rfl) :
    DE κ W X RD (.Call (.Name x p) (e :: es) [] pos) (xCall m fs) := by
  obtain ⟨f, fd, ps, F, a, b, c⟩ := c
  exact de_call F (hr.mono hk) tk hg a b c ha hn hdb he hpl
theorem de_callC0 {x : Str} {p : Pos} {k j : Nat} {m : List D → M D} (c : Cal X.prog X.w X.K X.mg X.base κ x k 0 m) (hr : Room j X.A) (hk : k ≤ j) (tk : Takes X W) (hg : Gl X x) (hdb : (x == ("__debug__" : Str)) = false := by decide) :
    DE κ W X RD (.Call (.Name x p) [] [] pos) (fun _ => m []) := by
  obtain ⟨f, fd, ps, F, a, b, c⟩ := c
  exact de_call0 F (hr.mono hk) tk hg a b c hdb
end
/-- what is asked of an error's class -/
structure Exk (K : PySem.W.Frag) (mg : Str → Option Value) (κ : Kn) (x : Str) : Prop where
  gP : mg x = some (.ref (κ.ec x))
  xP : PySem.W.excIn K (κ.ec x) [.type "ValueError", .type "Exception", .type "BaseException", .type "object"] "ValueError.__new__" = true
  kP : PySem.W.keepIn K (.ref (κ.ec x)) = true
  bP : PySem.W.subIn K (.ref (κ.ec x)) (.type "BaseException") = some true
  tP : PySem.W.typeIn K (.ref (κ.ec x)) = some (.type "type")
end DL

/-! The data layer, 7: the draws of the laws. -/
namespace DL
open PySem PySem.Spec PyProof.Rows L2
variable [Ec]
/-- one draw: c the counter (one more already), n the limit -/
def mixF (cell c : Int) : Int :=
  let m := (cell + 104729 * c) % 4294967291
  let m := m ^ 5 % 4294967279
  (m / 64 * 69621 + m) % 4294967231 / 8
def drawF (ns : List Int) (c n : Int) : Option (Int × List Int) :=
  match atI ns (c % (ns.length : Nat)) with
  | none => none
  | some cell => if 1000000000000000000 ≤ cell then some (cell % n, ns.set (c % (ns.length : Nat)).toNat (cell / n)) else some (mixF cell c % n, ns)
def m__law_draw : List D → M D
  | [.dict [(.int 0, .none)], .int n] => fun w => match w with
    | .lst [.dict [(.int 1, .none)], .int c] :: .lst xs :: rest => match intsOf xs with
      | some ns => if decide (0 < ns.length) && decide (0 < n) && decide (n < 1000000) && szOk ns.length then match drawF ns (c + 1) n with
          | some (r, ns') => .ok (.int r) (.lst [hnd 1, .int (c + 1)] :: .lst (dInts ns') :: rest)
          | none => .bad
        else .bad
      | none => .bad
    | _ => .bad
  | _ => M.bad
theorem draw_bound {ns ns' : List Int} {c n r : Int} (h : drawF ns c n = some (r, ns')) (hn : 0 < n) : 0 ≤ r ∧ r < n ∧ ns'.length = ns.length := by
  unfold drawF at h
  split at h
  · cases h
  · split at h
    · cases h
      exact ⟨Int.emod_nonneg _ (by omega), Int.emod_lt_of_pos _ hn, by rw [List.length_set]⟩
    · cases h
      exact ⟨Int.emod_nonneg _ (by omega), Int.emod_lt_of_pos _ hn, rfl⟩
theorem draw_some {ns : List Int} {c n : Int} (h : 0 < ns.length) : ∃ r ns', drawF ns c n = some (r, ns') := by
  have h0 : 0 ≤ c % (ns.length : Nat) := Int.emod_nonneg _ (by omega)
  have h1 : c % (ns.length : Nat) < (ns.length : Nat) := Int.emod_lt_of_pos _ (by omega)
  have e : atI ns (c % (ns.length : Nat)) = some ns[(c % (ns.length : Nat)).toNat] := by
    have e1 : (c % (ns.length : Nat)) = ((c % (ns.length : Nat)).toNat : Int) := by omega
    have := atI_nat (xs := ns) (j := (c % (ns.length : Nat)).toNat) (v := ns[(c % (ns.length : Nat)).toNat]) (List.getElem?_eq_getElem (by omega))
    rw [← e1] at this
    exact this
  unfold drawF
  rw [e]
  dsimp only
  split
  · exact ⟨_, _, rfl⟩
  · exact ⟨_, _, rfl⟩
/-- the shared objects at the draws: a counter beside a list of ints -/
def DW (w : W') : Prop := ∃ (c : Int) (ns : List Int), w = [.lst [hnd 1, .int c], .lst (dInts ns)] ∧ 0 < ns.length ∧ ns.length ≤ 1000
theorem draw_ok {w : W'} (h : DW w) {n : Int} (h0 : 0 < n) (h1 : n < 1000000) : ∃ r w', m__law_draw [hnd 0, .int n] w = .ok (.int r) w' ∧ 0 ≤ r ∧ r < n ∧ DW w' := by
  obtain ⟨c, ns, rfl, hl, hl2⟩ := h
  obtain ⟨r, ns', e⟩ := draw_some (c := c + 1) (n := n) hl
  obtain ⟨b1, b2, b3⟩ := draw_bound e h0
  refine ⟨r, [.lst [hnd 1, .int (c + 1)], .lst (dInts ns')], ?_, b1, b2, c + 1, ns', rfl, by omega, by omega⟩
  unfold m__law_draw hnd
  dsimp only [Int.ofNat_zero]
  show (match intsOf (dInts ns) with | some ns => _ | none => _) = _
  rw [intsOf_dInts]
  dsimp only
  have hz : szOk ns.length = true := by
    unfold szOk
    rw [sizeLine_eq]
    exact decide_eq_true (by omega)
  rw [if_pos (by rw [decide_eq_true hl, decide_eq_true h0, decide_eq_true h1, hz]; rfl), e]
theorem draw_inv {ds : List D} {w : W'} (h : m__law_draw ds w ≠ .bad) : ∃ n c ns rest r ns', ds = [hnd 0, .int n] ∧ w = .lst [hnd 1, .int c] :: .lst (dInts ns) :: rest ∧ 0 < ns.length ∧ 0 < n ∧ n < 1000000 ∧ drawF ns (c + 1) n = some (r, ns') ∧
    m__law_draw ds w = .ok (.int r) (.lst [hnd 1, .int (c + 1)] :: .lst (dInts ns') :: rest) := by
  unfold m__law_draw at h ⊢
  split at h
  · rename_i n
    dsimp only at h ⊢
    split at h
    · rename_i c xs rest
      cases ens : intsOf xs with
      | none => rw [ens] at h; exact absurd rfl h
      | some ns =>
        rw [ens] at h
        dsimp only at h ⊢
        have exs := intsOf_eq ens
        split at h
        · rename_i hc
          rw [if_pos hc]
          simp only [Bool.and_eq_true, decide_eq_true_eq] at hc
          cases ed : drawF ns (c + 1) n with
          | none => rw [ed] at h; exact absurd rfl h
          | some p =>
            obtain ⟨r, ns'⟩ := p
            exact ⟨n, c, ns, rest, r, ns', rfl, by rw [exs]; rfl, hc.1.1.1, hc.1.1.2, hc.1.2, ed, rfl⟩
        · exact absurd rfl h
    · exact absurd rfl h
  · exact absurd rfl h
theorem Rp.hndInv {g : List Addr} {F : Hp} {v : V} {d : D} {i : Nat} (h : Rp g F v d) (e : d = hnd i) : ∃ a, v = .ref a ∧ g[i]? = some a := by
  cases h with
  | hn h =>
    rename_i j a
    unfold hnd at e
    simp only [PyData.dict.injEq, List.cons.injEq, Prod.mk.injEq, PyData.int.injEq, and_true] at e
    have : j = i := by omega
    subst this
    exact ⟨a, rfl, h⟩
  | _ => cases e
theorem nodup_at {l : List Addr} (h : l.Nodup) {i j : Nat} {a : Addr} (hi : l[i]? = some a) (hj : l[j]? = some a) : i = j := by
  obtain ⟨i0, e0⟩ := List.getElem?_eq_some_iff.mp hi
  obtain ⟨j0, e1⟩ := List.getElem?_eq_some_iff.mp hj
  have q := List.pairwise_iff_getElem.mp h
  rcases Nat.lt_trichotomy i j with z | z | z
  · exact absurd (e0.trans e1.symm) (q i j i0 j0 z)
  · exact z
  · exact absurd (e1.trans e0.symm) (q j i j0 i0 z)
theorem lit1 : (0 : Int) < 4294967291 := by decide
theorem lit2 : (0 : Int) < 4294967279 := by decide
theorem lit3 : (0 : Int) < 4294967231 := by decide
theorem po_ne {κ : Kn} {W : WX} {g F H σ} {α : Type} {r : Res α} {K : KE α} (p : Po κ W g F H σ r K) : r ≠ .bad := fun z => by subst z; exact p
/-- atI of a list of ints -/
theorem atI_map {ns : List Int} {i cell : Int} (h : atI ns i = some cell) : atI (ns.map V.int) i = some (.int cell) := by
  unfold atI at h ⊢
  rw [List.length_map]
  cases e : ixN ns.length i with
  | none => rw [e] at h; cases h
  | some j =>
    rw [e] at h
    show (ns.map V.int)[j]? = _
    rw [List.getElem?_map]
    rw [show ns[j]? = some cell from h]
    rfl
section
variable {P : Program} {w : World} {K : PySem.W.Frag} {mg : Str → Option Value} {base : Heap} {κ : Kn}
abbrev n__law_draw : List Str := ["_law_draws", "_law_limit", "_law_numbers", "_law_at", "_law_cell", "_law_mixed"]
/-- the body's reading -/
theorem draw_read {K : PySem.W.Frag} {rLen : List V → Hp → VK → Prop} (hLen : ∀ p ys H Q, SqL K H p ys → Q (.int (ys.length : Nat)) H → rLen [.ref p] H Q) {vs : List V} {H : Hp} {Q : VK} {E : XK} (h : spD κ 2 m__law_draw vs H Q E) :
    (tSeq (tAsg (tOp (rIxL K) (tVar 0) (tC (.int 0))) (gName 2))
    (tSeq (tAsg (tOp (rI0 fun i j => .int (i + j)) (tOp (rIxL K) (tVar 0) (tC (.int 1))) (tC (.int 1))) (gSub (tVar 0) (tC (.int 1)) rSetL))
    (tSeq (tAsg (tOp (rI (fun _ j => 0 < j) fun i j => .int (i % j)) (tOp (rIxL K) (tVar 0) (tC (.int 1))) (tCB rLen (tCons (tVar 2) tNil))) (gName 3))
    (tSeq (tAsg (tOp (rIxL K) (tVar 2) (tVar 3)) (gName 4))
    (tSeq (tIfS (tTest (tOp (rI0 fun i j => .bl (decide (j ≤ i))) (tVar 4) (tC (.int 1000000000000000000)))) (tSeq (tAsg (tOp (rI CDiv fun i j => .int (i / j)) (tVar 4) (tVar 1)) (gSub (tVar 2) (tVar 3) rSetL)) (tRet (tOp (rI (fun _ j => 0 < j) fun i j => .int (i % j)) (tVar 4) (tVar 1)))) tNext)
    (tSeq (tAsg (tOp (rI (fun _ j => 0 < j) fun i j => .int (i % j)) (tOp (rI0 fun i j => .int (i + j)) (tVar 4) (tOp (rI CMul fun i j => .int (i * j)) (tC (.int 104729)) (tOp (rIxL K) (tVar 0) (tC (.int 1))))) (tC (.int 4294967291))) (gName 5))
    (tSeq (tAsg (tOp (rI (fun _ j => 0 < j) fun i j => .int (i % j)) (tOp (rI CPow fun i j => .int (i ^ j.toNat)) (tVar 5) (tC (.int 5))) (tC (.int 4294967279))) (gName 5))
    (tRet (tOp (rI (fun _ j => 0 < j) fun i j => .int (i % j)) (tOp (rI CDiv fun i j => .int (i / j)) (tOp (rI (fun _ j => 0 < j) fun i j => .int (i % j)) (tOp (rI0 fun i j => .int (i + j)) (tOp (rI CMul fun i j => .int (i * j)) (tOp (rI CDiv fun i j => .int (i / j)) (tVar 5) (tC (.int 64))) (tC (.int 69621))) (tVar 5)) (tC (.int 4294967231))) (tC (.int 8))) (tVar 1))))))))))
    { nx := fun _ H' => Q .non H', rt := Q } (L2.start n__law_draw vs) H := by
  obtain ⟨g, F, w, ds, k, hr, hl, p⟩ := h
  obtain ⟨n, c, ns, rest, r, ns', rfl, rfl, c1, c2, c3, ed, eq⟩ := draw_inv (po_ne p)
  rw [eq] at p
  cases hr with
  | cons r1 hr =>
    cases hr with
    | cons r2 hr =>
      cases hr
      cases r2
      obtain ⟨a, rfl, ga⟩ := r1.hndInv rfl
      obtain ⟨a', ga', ca⟩ := k.cells 0 _ rfl
      rw [ga] at ga'
      cases ga'
      obtain ⟨va, hA, ra⟩ := ca
      obtain ⟨l, gl, cl⟩ := k.cells 1 _ rfl
      obtain ⟨vl, hL, rl⟩ := cl
      have evl := rl.ints
      subst evl
      obtain ⟨hAl, rfl⟩ : (a ≠ l) ∧ va = [.ref l, .int c] := by
        refine ⟨fun z => ?_, ?_⟩
        · subst z
          exact absurd (nodup_at k.gnd ga gl) (by decide)
        · cases ra with
          | cons q1 ra =>
            cases ra with
            | cons q2 ra =>
              cases ra
              cases q2
              obtain ⟨a, rfl, h⟩ := q1.hndInv rfl
              rw [gl] at h
              cases h
              rfl
      -- the heap behind the counter's step
      have H1A : (upd H a (.lst [.ref l, .int (c + 1)])) a = some (.lst [.ref l, .int (c + 1)]) := upd_same
      have H1L : (upd H a (.lst [.ref l, .int (c + 1)])) l = some (.lst (ns.map V.int)) := by rw [upd_ne (Ne.symm hAl)]; exact hL
      -- what follows
      have fin : ∀ H2 : Hp, H2 a = some (.lst [.ref l, .int (c + 1)]) → H2 l = some (.lst (ns'.map V.int)) → (∀ b, b ≠ a → b ≠ l → H2 b = H b) → Q (.int r) H2 := fun H2 h1 h2 h3 => by
        have hag : a ∈ g := List.mem_of_getElem? ga
        have hlg : l ∈ g := List.mem_of_getElem? gl
        refine p g F H2 ⟨List.prefix_rfl, fun _ _ h => h, fun b o hb nb => ?_, fun b hb => ?_, fun _ _ h => h, fun _ h => .inl h⟩ ⟨fun b o hb => ?_, k.gnd, k.gF, k.gl, fun i cc hcc => ?_⟩ _ (.int r)
        · rw [h3 b (fun z => nb (z ▸ hag)) (fun z => nb (z ▸ hlg))]; exact hb
        · by_cases e1 : b = a
          · subst e1; rw [h1] at hb; cases hb
          · by_cases e2 : b = l
            · subst e2; rw [h2] at hb; cases hb
            · rw [h3 b e1 e2] at hb; exact hb
        · have nb : b ∉ g := fun z => by rw [k.gF b z] at hb; cases hb
          rw [h3 b (fun z => nb (z ▸ hag)) (fun z => nb (z ▸ hlg))]; exact k.FH b o hb
        · match i, hcc with
          | 0, hcc =>
            cases hcc
            exact ⟨a, ga, _, h1, .cons (.hn gl) (.cons (.int _) .nil)⟩
          | 1, hcc =>
            cases hcc
            exact ⟨l, gl, _, h2, RpL.of_ints _⟩
          | i + 2, hcc =>
            obtain ⟨b, gb, cb⟩ := k.cells (i + 2) cc hcc
            have n1 : b ≠ a := fun z => by
              subst z
              have := nodup_at k.gnd ga gb
              omega
            have n2 : b ≠ l := fun z => by
              subst z
              have := nodup_at k.gnd gl gb
              omega
            exact ⟨b, gb, cb.mono List.prefix_rfl (fun _ _ h => h) fun o ho => by rw [h3 b n1 n2]; exact ho⟩
      unfold drawF at ed
      split at ed
      · cases ed
      · rename_i cell ecell
        have hpos : (0 : Int) < (ns.length : Nat) := by omega
        refine ⟨.ref a, rfl, a, _, 0, .ref l, rfl, rfl, SqL.of hA, rfl, ?_⟩
        refine ⟨.ref a, rfl, a, _, 1, .int c, rfl, rfl, SqL.of hA, rfl, c, 1, rfl, rfl, .ref a, rfl, a, _, 1, 1, rfl, rfl, hA, rfl, ?_⟩
        refine ⟨.ref a, rfl, a, _, 1, .int (c + 1), rfl, rfl, SqL.of H1A, rfl, .ref l, rfl, hLen l (ns.map V.int) _ _ (SqL.of H1L) ⟨c + 1, ((ns.map V.int).length : Nat), rfl, rfl, by rw [List.length_map]; exact hpos, ?_⟩⟩
        rw [List.length_map]
        refine ⟨.ref l, rfl, .int ((c + 1) % (ns.length : Nat)), rfl, l, _, _, .int cell, rfl, rfl, SqL.of H1L, atI_map ecell, ?_⟩
        refine ⟨.int cell, rfl, cell, 1000000000000000000, rfl, rfl, _, rfl, ?_⟩
        split at ed
        · rename_i hbig
          cases ed
          refine ite2 (fun _ => ?_) (fun z => absurd (decide_eq_true hbig) z)
          obtain ⟨j, q1, q2, q3, q4, q5⟩ := atI_get ecell
          have h0 : 0 ≤ (c + 1) % (ns.length : Nat) := Int.emod_nonneg _ (by omega)
          have h1 : (c + 1) % (ns.length : Nat) < (ns.length : Nat) := Int.emod_lt_of_pos _ hpos
          refine ⟨.int cell, rfl, .int n, rfl, cell, n, rfl, rfl, ⟨c2, by omega⟩, .ref l, rfl, .int ((c + 1) % (ns.length : Nat)), rfl, l, _, _, ((c + 1) % (ns.length : Nat)).toNat, rfl, rfl, H1L, ?_, ?_⟩
          · unfold ixN
            rw [List.length_map, if_pos h0, if_pos h1]
          · refine ⟨.int cell, rfl, .int n, rfl, cell, n, rfl, rfl, c2, fin _ ?_ ?_ fun b n1 n2 => ?_⟩
            · rw [upd_ne hAl]; exact H1A
            · rw [upd_same, List.map_set]
            · rw [upd_ne n2, upd_ne n1]
        · rename_i hsm
          cases ed
          refine ite2 (fun z => absurd (of_decide_eq_true z) hsm) (fun _ => ?_)
          refine ⟨.int cell, rfl, .ref a, rfl, a, _, 1, .int (c + 1), rfl, rfl, SqL.of H1A, rfl, 104729, c + 1, rfl, rfl, .inl ⟨by decide, by decide⟩, cell, 104729 * (c + 1), rfl, rfl, _, 4294967291, rfl, rfl, lit1, ?_⟩
          have m1 : 0 ≤ (cell + 104729 * (c + 1)) % 4294967291 := Int.emod_nonneg _ (by decide)
          have m2 : (cell + 104729 * (c + 1)) % 4294967291 < 4294967291 := Int.emod_lt_of_pos _ (by decide)
          refine ⟨_, rfl, _, 5, rfl, rfl, ⟨by decide, by decide, ?_⟩, _, 4294967279, rfl, rfl, lit2, ?_⟩
          · show ((cell + 104729 * (c + 1)) % 4294967291).natAbs < 2 ^ 64
            omega
          refine ⟨_, rfl, _, 64, rfl, rfl, ⟨by decide, by decide⟩, _, 69621, rfl, rfl, .inr ⟨by decide, by decide⟩, _, rfl, _, _, rfl, rfl, _, 4294967231, rfl, rfl, lit3, _, 8, rfl, rfl, ⟨by decide, by decide⟩, .int n, rfl, _, n, rfl, rfl, c2, ?_⟩
          have q := fin _ H1A H1L fun b n1 _ => by rw [upd_ne n1]
          exact q
theorem ok_draw {st : Stmt} {f : Addr} {fd : FuncData} (sc : FnScope n__law_draw ["_law_draws", "_law_limit"] (defScope st)) (F : Fun K "_law_draw" "_law_draw" st f fd) (hm : mg "_law_draw" = some (.ref f)) (hb : Binds K fd ["_law_draws", "_law_limit"] [])
    (hbody : ∀ (cdv : Value) (A : Around) (outer : List Env) (s : Shared) (H : Hp) (E : XK), PSs (cxOf (L2.CX P w) P w K mg base n__law_draw "_law_draw" (defScope st) f cdv A outer s H E) (defBody st)
      (tSeq (tAsg (tOp (rIxL K) (tVar 0) (tC (.int 0))) (gName 2))
      (tSeq (tAsg (tOp (rI0 fun i j => .int (i + j)) (tOp (rIxL K) (tVar 0) (tC (.int 1))) (tC (.int 1))) (gSub (tVar 0) (tC (.int 1)) rSetL))
      (tSeq (tAsg (tOp (rI (fun _ j => 0 < j) fun i j => .int (i % j)) (tOp (rIxL K) (tVar 0) (tC (.int 1))) (tCB (fun xs H Q => ∃ p ys, xs = [.ref p] ∧ (SqL K H p ys ∨ SqT K H p ys) ∧ Q (.int ys.length) H) (tCons (tVar 2) tNil))) (gName 3))
      (tSeq (tAsg (tOp (rIxL K) (tVar 2) (tVar 3)) (gName 4))
      (tSeq (tIfS (tTest (tOp (rI0 fun i j => .bl (decide (j ≤ i))) (tVar 4) (tC (.int 1000000000000000000)))) (tSeq (tAsg (tOp (rI CDiv fun i j => .int (i / j)) (tVar 4) (tVar 1)) (gSub (tVar 2) (tVar 3) rSetL)) (tRet (tOp (rI (fun _ j => 0 < j) fun i j => .int (i % j)) (tVar 4) (tVar 1)))) tNext)
      (tSeq (tAsg (tOp (rI (fun _ j => 0 < j) fun i j => .int (i % j)) (tOp (rI0 fun i j => .int (i + j)) (tVar 4) (tOp (rI CMul fun i j => .int (i * j)) (tC (.int 104729)) (tOp (rIxL K) (tVar 0) (tC (.int 1))))) (tC (.int 4294967291))) (gName 5))
      (tSeq (tAsg (tOp (rI (fun _ j => 0 < j) fun i j => .int (i % j)) (tOp (rI CPow fun i j => .int (i ^ j.toNat)) (tVar 5) (tC (.int 5))) (tC (.int 4294967279))) (gName 5))
      (tRet (tOp (rI (fun _ j => 0 < j) fun i j => .int (i % j)) (tOp (rI CDiv fun i j => .int (i / j)) (tOp (rI (fun _ j => 0 < j) fun i j => .int (i % j)) (tOp (rI0 fun i j => .int (i + j)) (tOp (rI CMul fun i j => .int (i * j)) (tOp (rI CDiv fun i j => .int (i / j)) (tVar 5) (tC (.int 64))) (tC (.int 69621))) (tVar 5)) (tC (.int 4294967231))) (tC (.int 8))) (tVar 1))))))))))) :
    Cal P w K mg base κ "_law_draw" 1 2 m__law_draw := by
  refine Cal.of F hm hb (F.okX sc (fun vs H Q E h => ?_) (fun cdv A outer s H vs Q E hr h => ⟨_, hbody cdv A outer s H E, ?_⟩))
  · obtain ⟨g, F, w, ds, _, hr, hl, _⟩ := h
    rw [hr.length]; exact hl
  · exact draw_read (fun p ys H Q hs q => ⟨p, ys, rfl, .inl hs, q⟩) h
end
end DL

/-! The data layer, 8: a law's start and end. -/
namespace DL
open PySem PySem.Spec PyProof.Rows L2
variable [Ec]
def seedF (ns : List Int) : List Int := if ns.isEmpty then [0] else ns
def spStart (K : PySem.W.Frag) : Sp := fun vs H Q _ => ∃ (a : Addr) (ns : List Int), vs = [.ref a] ∧ SqL K H a (ns.map V.int) ∧
  ∀ H' l p, Same H H' → H' l = some (.lst ((seedF ns).map V.int)) → H' p = some (.lst [.ref l, .int 0]) → p ≠ l → H l = none → H p = none → Q (.ref p) H'
theorem dp_ints {K : PySem.W.Frag} {H : Hp} {a : Addr} {ns : List Int} (h : SqL K H a (ns.map V.int)) : Dp K H (.ref a) (.list (dInts ns)) := by
  refine .lst h ?_
  induction ns with
  | nil => exact .nil
  | cons n r ih =>
    have : ∀ r : List Int, DpAll K H (r.map V.int) (dInts r) := fun r => by
      induction r with
      | nil => exact .nil
      | cons m r ih => exact .cons (.int m) ih
    exact this (n :: r)
theorem lay_ints : ∀ ns : List Int, PyData.canLayAll0 (dInts ns) = true
  | [] => rfl
  | n :: r => by
    show (true && PyData.canLayAll0 (dInts r)) = true
    rw [lay_ints r]
    rfl
theorem depth_ints : ∀ ns : List Int, PyData.depthAll (dInts ns) = 0
  | [] => rfl
  | n :: r => by
    show max (PyData.depth (.int n)) (PyData.depthAll (dInts r)) = 0
    rw [depth_ints r]
    rfl
theorem shaped_ints (ns : List Int) : SeqAt.shaped (.list (dInts ns)) = true := by
  show ((PyData.list (dInts ns)).canLay0 && decide ((PyData.list (dInts ns)).depth ≤ 64)) = true
  rw [Bool.and_eq_true]
  refine ⟨lay_ints ns, decide_eq_true ?_⟩
  simp only [PyData.depth, depth_ints]
  decide
abbrev tStart (K : PySem.W.Frag) : TS := tRet (tLst (tCons (tIf (tTest (tOp (rNeD K) (tVar 0) (tLst tNil))) (tCB (fun xs H Q => ∃ p ys, xs = [.ref p] ∧ (SqL K H p ys ∨ SqT K H p ys) ∧ ∀ l, H l = none → Q (.ref l) (upd H l (.lst ys))) (tCons (tVar 0) tNil)) (tLst (tCons (tC (.int 0)) tNil))) (tCons (tC (.int 0)) tNil)))
/-- the reading of «return [list(script) if script != [] else [0], 0]» -/
theorem start_read {K : PySem.W.Frag} {vs : List V} {H : Hp} {Q : VK} {E : XK} (h : spStart K vs H Q E) :
    tStart K { nx := fun _ H' => Q .non H', rt := Q } (L2.start ["_law_script"] vs) H := by
  obtain ⟨a, ns, rfl, hS, q⟩ := h
  refine ⟨.ref a, rfl, Nat.zero_le _, fun e he => ?_⟩
  have s1 : Same H (upd H e (.lst [])) := fun b o z => by rw [upd_ne (ne_of_none z he)]; exact z
  have hS1 : SqL K (upd H e (.lst [])) a (ns.map V.int) := s1.seq hS
  refine ⟨.list (dInts ns), .list [], dp_ints hS1, .lst (SqL.of upd_same) .nil, shaped_ints ns, by decide, _, rfl, ?_⟩
  have main : ∀ l, (upd H e (.lst [])) l = none → ∀ p, (upd (upd H e (.lst [])) l (.lst ((seedF ns).map V.int))) p = none → Q (.ref p) (upd (upd (upd H e (.lst [])) l (.lst ((seedF ns).map V.int))) p (.lst [.ref l, .int 0])) := fun l hl p hp => by
    have npl : p ≠ l := fun z => by rw [z, upd_same] at hp; cases hp
    have hHl := s1.free hl
    have hp' : (upd H e (.lst [])) p = none := by rw [upd_ne npl] at hp; exact hp
    have hHp := s1.free hp'
    refine q _ l p (fun b o z => ?_) (by rw [upd_ne (Ne.symm npl), upd_same]) upd_same npl hHl hHp
    have z1 := s1 b o z
    rw [upd_ne (ne_of_none z hHp), upd_ne (ne_of_none z hHl)]
    exact z1
  cases ns with
  | nil =>
    have e1 : (!PyData.eqv (.list (dInts [])) (.list [])) = false := by decide
    rw [e1]
    exact iteF ⟨by show 1 ≤ sizeLine; decide, fun l hl => ⟨by show 2 ≤ sizeLine; decide, fun p hp => main l hl p hp⟩⟩
  | cons n r =>
    have e1 : (!PyData.eqv (.list (dInts (n :: r))) (.list [])) = true := rfl
    rw [e1]
    refine iteT ⟨_, rfl, ⟨a, _, rfl, .inl hS1, fun l hl => ⟨by show 2 ≤ sizeLine; decide, fun p hp => main l hl p hp⟩⟩⟩
def spLaw (K : PySem.W.Frag) : Sp := fun vs H Q _ => ∃ (a : Addr) (ns : List Int), vs = [.ref a] ∧ SqL K H a (ns.map V.int) ∧ ns.length ≤ 63 ∧ ∀ v H', v = .bl true → Q v H'
def slots0 (n : Nat) : List Slot := Slot.un :: Slot.d (hnd 0) :: List.replicate (n - 2) Slot.un
def world0 (ns : List Int) : W' := [.lst [hnd 1, .int 0], .lst (dInts ns)]
theorem dw0 (ns : List Int) (h : ns.length ≤ 63) : DW (world0 (seedF ns)) := by
  refine ⟨0, seedF ns, rfl, ?_, ?_⟩
  · unfold seedF
    cases ns with
    | nil => decide
    | cons n r => simp
  · unfold seedF
    cases ns with
    | nil => decide
    | cons n r => simp at h ⊢; omega
section
variable {P : Program} {w : World} {K : PySem.W.Frag} {mg : Str → Option Value} {base : Heap} {κ : Kn}
theorem law_lr {N : List Str} {a l p : Addr} {H : Hp} {ns : List Int} (hN : 2 ≤ N.length) (h1 : H l = some (.lst (ns.map V.int))) (h2 : H p = some (.lst [.ref l, .int 0])) (h3 : p ≠ l) :
    Lr κ [p, l] (fun _ => none) (fun _ => 0) (slots0 N.length) (world0 ns) ((L2.start N [.ref a]).set 1 (some (.ref p))) H where
  wk := ⟨fun _ _ z => (nomatch z), by simp [h3], fun _ _ => rfl, rfl, fun i c e => by
    match i, e with
    | 0, e => cases e; exact ⟨p, rfl, _, h2, .cons (.hn (i := 1) rfl) (.cons (.int 0) .nil)⟩
    | 1, e => cases e; exact ⟨l, rfl, _, h1, RpL.of_ints _⟩
    | i + 2, e => simp [world0] at e⟩
  len := by
    unfold slots0 L2.start
    simp
    omega
  slots := fun i s e => by
    match i, e with
    | 0, e => cases e; trivial
    | 1, e =>
      cases e
      refine ⟨.ref p, ?_, .hn (i := 0) rfl⟩
      rw [List.getElem?_set_self]
      unfold L2.start
      simp
      omega
    | i + 2, e =>
      unfold slots0 at e
      simp only [List.getElem?_cons_succ, List.getElem?_replicate] at e
      split at e
      · cases e; trivial
      · cases e
  owns := fun i j xs ys e _ m _ _ => by
    match i, e with
    | 0, e => cases e; cases m
    | 1, e => cases e; cases m
    | i + 2, e =>
      unfold slots0 at e
      simp only [List.getElem?_cons_succ, List.getElem?_replicate] at e
      split at e
      · cases e; cases m
      · cases e
theorem law_ok {st : Stmt} {f fS : Addr} {fd fdS : FuncData} {N : List Str} {k : Nat} {st1 : Stmt} {rest : List Stmt} {fl : Sm} (F : Fun K "law" "law" st f fd) (S : FnScope N ["_law_script"] (defScope st)) (hN : 2 ≤ N.length) (hst : defBody st = st1 :: rest)
    (GS : FnOk P w K mg base CX0 1 fS fdS ["_law_script"] (spStart K))
    (h1 : ∀ (cdv : Value) (A : Around) (outer : List Env) (s : Shared) (H : Hp) (E : XK), Room k (A.deeper (envOfC "law" (defScope st) s.heap.objs.size f cdv)) → PS (cxOf (L2.CX P w) P w K mg base N "law" (defScope st) f cdv A outer s H E) st1 (tAsg (tCall (spStart K) [] E0 (tCons (tVar 0) tNil)) (gName 1)))
    (h2 : ∀ (cdv : Value) (A : Around) (outer : List Env) (s : Shared) (H : Hp) (E : XK), Room k (A.deeper (envOfC "law" (defScope st) s.heap.objs.size f cdv)) → DSs κ (fun c d _ H => E c d H) (cxOf (L2.CX P w) P w K mg base N "law" (defScope st) f cdv A outer s H E) rest fl)
    (pure : ∀ ns : List Int, DW (world0 ns) → ∃ w', fl (slots0 N.length) (world0 ns) = .ret (.bool true) w') : FnOk P w K mg base (L2.CX P w) (k + 1) f fd ["_law_script"] (spLaw K) := by
  refine F.okX S (fun vs H Q E h => ?_) (fun cdv A outer s H vs Q E hr h => ⟨_, by rw [hst]; exact pss_cons (h1 cdv A outer s H E hr) (h2 cdv A outer s H E hr), ?_⟩)
  · obtain ⟨a, ns, rfl, _⟩ := h
    rfl
  · obtain ⟨a, ns, rfl, hS, hl, q⟩ := h
    refine ⟨.ref a, by unfold L2.start; rfl, a, ns, rfl, hS, fun H' l p sm hl' hp npl nl np => ?_⟩
    obtain ⟨w', e⟩ := pure (seedF ns) (dw0 ns hl)
    refine ⟨[p, l], fun _ => none, H', [p, l], fun _ => none, fun _ => 0, slots0 N.length, world0 (seedF ns), ⟨law_lr hN hl' hp npl, Ext.refl _ _ _, fun i xs ei m => ?_⟩, ?_⟩
    · exfalso
      match i, ei with
      | 0, e => cases e; cases m
      | 1, e => cases e; cases m
      | i + 2, e =>
        unfold slots0 at e
        simp only [List.getElem?_cons_succ, List.getElem?_replicate] at e
        split at e
        · cases e; cases m
        · cases e
    · rw [e]
      exact fun g F H2 v _ _ r => by cases r; exact q _ _ rfl
theorem cx_no (w : World) (H : Hp) (s : Shared) (e : Value) (s' : Shared) (h : L2.CX P w [] H s (fun _ _ _ => False) e s') : False := by
  obtain ⟨_, _, _, _, _, _, _, _, _, _, _, _, z⟩ := h
  exact z
end
end DL

/-! The data layer, 9: mirrors over typed data. -/
namespace DL
open PySem PySem.Spec PyProof.Rows L2
/-- where nothing is said of the errors -/
instance (priority := 1) ecNone : Ec := ⟨fun _ => 0⟩
/-- a type of plain data -/
class Enc (α : Type) [DecidableEq α] where
  e : α → D
  n : Nat
  eqv : ∀ a b, PyData.eqv (e a) (e b) = decide (a = b)
  lay : ∀ a, (e a).canLay0 = true
  dep : ∀ a, (e a).depth ≤ n
section
variable {α β : Type} [DecidableEq α] [DecidableEq β] [Enc α] [Enc β]
abbrev en (a : α) : D := Enc.e a
/-- a list of such -/
def eL (xs : List α) : D := .list (xs.map Enc.e)
theorem eqvAll_map : ∀ xs ys : List α, PyData.eqvAll (xs.map Enc.e) (ys.map Enc.e) = decide (xs = ys)
  | [], [] => rfl
  | [], y :: ys => rfl
  | x :: xs, [] => rfl
  | x :: xs, y :: ys => by
    rw [List.map_cons, List.map_cons]
    simp only [PyData.eqvAll]
    rw [Enc.eqv, eqvAll_map xs ys]
    by_cases h : x = y
    · by_cases h2 : xs = ys
      · simp [h, h2]
      · simp [h, h2]
    · simp [h]
theorem layAll_map : ∀ xs : List α, PyData.canLayAll0 (xs.map Enc.e) = true
  | [] => rfl
  | x :: xs => by
    rw [List.map_cons]
    simp only [PyData.canLayAll0, Bool.and_eq_true]
    exact ⟨Enc.lay x, layAll_map xs⟩
theorem depthAll_map : ∀ xs : List α, PyData.depthAll (xs.map Enc.e) ≤ Enc.n α
  | [] => Nat.zero_le _
  | x :: xs => by
    rw [List.map_cons]
    simp only [PyData.depthAll]
    have h1 := Enc.dep x
    have h2 := depthAll_map xs
    omega
end
instance : Enc Int where
  e := .int
  n := 0
  eqv := fun a b => by simp only [PyData.eqv]; rw [Bool.beq_eq_decide_eq]
  lay := fun _ => rfl
  dep := fun _ => Nat.le_refl _
instance : Enc Bool where
  e := .bool
  n := 0
  eqv := fun a b => by simp only [PyData.eqv]; rw [Bool.beq_eq_decide_eq]
  lay := fun _ => rfl
  dep := fun _ => Nat.le_refl _
instance {α β : Type} [DecidableEq α] [DecidableEq β] [Enc α] [Enc β] : Enc (α × β) where
  e := fun p => .tuple [Enc.e p.1, Enc.e p.2]
  n := 1 + max (Enc.n α) (Enc.n β)
  eqv := fun a b => by
    obtain ⟨a1, a2⟩ := a
    obtain ⟨b1, b2⟩ := b
    simp only [PyData.eqv, PyData.eqvAll]
    rw [Enc.eqv, Enc.eqv]
    by_cases h : a1 = b1
    · by_cases h2 : a2 = b2
      · simp [h, h2]
      · simp [h, h2]
    · simp [h]
  lay := fun a => by
    simp only [PyData.canLay0, PyData.canLayAll0]
    rw [Enc.lay, Enc.lay]
    rfl
  dep := fun a => by
    simp only [PyData.depth, PyData.depthAll]
    have h1 := Enc.dep a.1
    have h2 := Enc.dep a.2
    omega
instance {α : Type} [DecidableEq α] [Enc α] : Enc (List α) where
  e := eL
  n := 1 + Enc.n α
  eqv := fun a b => by unfold eL; simp only [PyData.eqv]; exact eqvAll_map a b
  lay := fun a => by unfold eL; simp only [PyData.canLay0]; exact layAll_map a
  dep := fun a => by
    unfold eL
    simp only [PyData.depth]
    have := depthAll_map a
    omega
/-- shallow enough to be compared -/
class Sh (α : Type) [DecidableEq α] [Enc α] : Prop where
  sh : Enc.n α ≤ 20
instance : Sh Int := ⟨by decide⟩
instance : Sh (List Int) := ⟨by decide⟩
instance : Sh (List (List Int)) := ⟨by decide⟩
instance : Sh (Int × Int) := ⟨by decide⟩
instance : Sh (List (Int × Int)) := ⟨by decide⟩
section
variable {α β : Type} [DecidableEq α] [DecidableEq β] [Enc α] [Enc β] [Sh α] [Sh β]
theorem shaped_e (a : α) : SeqAt.shaped (Enc.e a) = true := by
  show ((Enc.e a).canLay0 && decide ((Enc.e a).depth ≤ 64)) = true
  rw [Bool.and_eq_true]
  have h1 := Enc.dep a
  have h2 := Sh.sh (α := α)
  exact ⟨Enc.lay a, decide_eq_true (by omega)⟩
theorem shaped_l (xs : List α) : SeqAt.shaped (eL xs) = true := by
  show ((eL xs).canLay0 && decide ((eL xs).depth ≤ 64)) = true
  rw [Bool.and_eq_true]
  have h1 := Enc.dep xs
  have h2 := Sh.sh (α := α)
  have h3 : Enc.n (List α) = 1 + Enc.n α := rfl
  have h4 : (Enc.e xs).depth = (eL xs).depth := rfl
  exact ⟨Enc.lay xs, decide_eq_true (by omega)⟩
/-! ### what the operations give -/
theorem kEq_e (a b : α) : kEq (Enc.e a) (Enc.e b) = M.pure (PyData.bool (decide (a = b))) := by
  unfold kEq chk
  rw [shaped_e, shaped_e, Enc.eqv]
  rfl
theorem kNe_e (a b : α) : kNe (Enc.e a) (Enc.e b) = M.pure (PyData.bool (!decide (a = b))) := by
  unfold kNe chk
  rw [shaped_e, shaped_e, Enc.eqv]
  rfl
theorem kEq_l (a b : List α) : kEq (eL a) (eL b) = M.pure (PyData.bool (decide (a = b))) := by
  unfold kEq chk
  rw [shaped_l, shaped_l, show PyData.eqv (eL a) (eL b) = decide (a = b) from Enc.eqv a b]
  rfl
theorem kNe_l (a b : List α) : kNe (eL a) (eL b) = M.pure (PyData.bool (!decide (a = b))) := by
  unfold kNe chk
  rw [shaped_l, shaped_l, show PyData.eqv (eL a) (eL b) = decide (a = b) from Enc.eqv a b]
  rfl
theorem any_map (a : α) : ∀ xs : List α, ((xs.map Enc.e).any fun z => PyData.eqv z (Enc.e a)) = decide (a ∈ xs)
  | [] => rfl
  | x :: xs => by
    rw [List.map_cons, List.any_cons, Enc.eqv, any_map a xs]
    by_cases h : x = a
    · simp [h]
    · have h' : a ≠ x := fun z => h z.symm
      simp [h, h']
theorem kIn_l (a : α) (xs : List α) : kIn (Enc.e a) (eL xs) = M.pure (PyData.bool (decide (a ∈ xs))) := by
  show chk (SeqAt.shaped (Enc.e a) && SeqAt.shaped (eL xs)) _ = _
  rw [shaped_e, shaped_l]
  show M.pure (PyData.bool ((xs.map Enc.e).any fun z => PyData.eqv z (Enc.e a))) = _
  rw [any_map]
theorem kNotIn_l (a : α) (xs : List α) : kNotIn (Enc.e a) (eL xs) = M.pure (PyData.bool (!decide (a ∈ xs))) := by
  show chk (SeqAt.shaped (Enc.e a) && SeqAt.shaped (eL xs)) _ = _
  rw [shaped_e, shaped_l]
  show M.pure (PyData.bool (!(xs.map Enc.e).any fun z => PyData.eqv z (Enc.e a))) = _
  rw [any_map]
/-- the first place of an item -/
def idx (a : α) : List α → Nat
  | [] => 0
  | x :: r => if x = a then 0 else idx a r + 1
theorem idx_lt {a : α} : ∀ {xs : List α}, a ∈ xs → idx a xs < xs.length
  | [], h => by simp at h
  | x :: r, h => by
    unfold idx
    by_cases e : x = a
    · rw [if_pos e]; simp
    · rw [if_neg e, List.length_cons]
      rcases List.mem_cons.mp h with q | q
      · exact absurd q.symm e
      · have := idx_lt q; omega
theorem idx_get {a : α} : ∀ {xs : List α}, a ∈ xs → xs[idx a xs]? = some a
  | [], h => by simp at h
  | x :: r, h => by
    unfold idx
    by_cases e : x = a
    · rw [if_pos e, e]; rfl
    · rw [if_neg e]
      rcases List.mem_cons.mp h with q | q
      · exact absurd q.symm e
      · simpa using idx_get q
theorem ixD_map (a : α) : ∀ (xs : List α) (n : Nat), a ∈ xs → ixD (Enc.e a) (xs.map Enc.e) n = some (n + idx a xs)
  | [], _, h => by simp at h
  | x :: r, n, h => by
    rw [List.map_cons]
    unfold ixD idx
    rw [Enc.eqv]
    by_cases e : x = a
    · rw [if_pos (decide_eq_true e), if_pos e]; rfl
    · rw [if_neg (by simp [e]), if_neg e]
      rcases List.mem_cons.mp h with q | q
      · exact absurd q.symm e
      · rw [ixD_map a r (n + 1) q]
        congr 1
        omega
theorem kIndex_l (a : α) (xs : List α) (h : a ∈ xs) : kIndex (eL xs) [Enc.e a] = M.pure (PyData.int (idx a xs : Nat)) := by
  show chk (SeqAt.shaped (eL xs) && SeqAt.shaped (Enc.e a)) _ = _
  rw [shaped_e, shaped_l]
  show (match ixD (Enc.e a) (xs.map Enc.e) 0 with | some j => M.pure (PyData.int (j : Nat)) | none => M.bad) = _
  rw [ixD_map a xs 0 h, Nat.zero_add]
theorem kLen_l (xs : List α) : kLen [eL xs] = M.pure (PyData.int (xs.length : Nat)) := by
  show M.pure (PyData.int ((xs.map Enc.e).length : Nat)) = _
  rw [List.length_map]
theorem kIx_l {xs : List α} {i : Nat} {a : α} (h : xs[i]? = some a) : kIx (eL xs) (.int (i : Nat)) = M.pure (Enc.e a) := by
  show (match atI (xs.map Enc.e) (i : Nat) with | some d => M.pure d | none => M.bad) = _
  rw [atI_nat (v := Enc.e a) (by rw [List.getElem?_map, h]; rfl)]
theorem kRev_l (xs : List α) : kRev (eL xs) = M.pure (eL xs.reverse) := by
  show M.pure (PyData.list (xs.map Enc.e).reverse) = _
  rw [← List.map_reverse]
  rfl
end
theorem onInts_l {α : Type} (ns : List Int) (f : List Int → M α) : onInts (eL ns) f = f ns := by
  show (match intsOf (dInts ns) with | some ns => f ns | none => M.bad) = _
  rw [intsOf_dInts]
theorem kMax_l {ns : List Int} (h : 0 < ns.length) : kMax [eL ns] = M.pure (PyData.int (maxI ns)) := by
  show onInts (eL ns) _ = _
  rw [onInts_l, decide_eq_true h]
  rfl
theorem kMin_l {ns : List Int} (h : 0 < ns.length) : kMin [eL ns] = M.pure (PyData.int (minI ns)) := by
  show onInts (eL ns) _ = _
  rw [onInts_l, decide_eq_true h]
  rfl
theorem kSum_l (ns : List Int) : kSum [eL ns] = M.pure (PyData.int ns.sum) := by
  show onInts (eL ns) _ = _
  rw [onInts_l]
theorem kSortI_l {ns : List Int} (h : ns.length < 64) : kSortI [eL ns] = M.pure (eL (sortI ns)) := by
  show onInts (eL ns) _ = _
  rw [onInts_l, decide_eq_true h]
  rfl
theorem asL_l {α : Type} [DecidableEq α] [Enc α] (xs : List α) : asL (eL xs) = M.pure (xs.map Enc.e) := rfl
/-- 0, 1, .. -/
def rg (n : Nat) : List Int := (List.range n).map fun (i : Nat) => (i : Int)
theorem rg_len (n : Nat) : (rg n).length = n := by unfold rg; rw [List.length_map, List.length_range]
theorem kRg_n {n : Nat} (h : n ≤ 1000000) : kRg (.int (n : Nat)) = M.pure ((rg n).map Enc.e) := by
  show chk (cRg n) (M.pure (rgD n)) = _
  have : cRg n = true := by
    unfold cRg
    simp only [Bool.and_eq_true, decide_eq_true_eq]
    omega
  rw [this]
  rfl
theorem kLstRg_n {n : Nat} (h : n ≤ 1000000) : kLstRg (.int (n : Nat)) = M.pure (eL (rg n)) := by
  show chk (cRg n) (M.pure (PyData.list (rgD n))) = _
  have : cRg n = true := by
    unfold cRg
    simp only [Bool.and_eq_true, decide_eq_true_eq]
    omega
  rw [this]
  rfl
theorem rg_get {n i : Nat} (h : i < n) : (rg n)[i]? = some (i : Int) := by
  unfold rg
  rw [List.getElem?_map, List.getElem?_range h]
  rfl
theorem rg_mem {n : Nat} {x : Int} : x ∈ rg n ↔ 0 ≤ x ∧ x < n := by
  unfold rg
  rw [List.mem_map]
  constructor
  · rintro ⟨i, hi, rfl⟩
    have := List.mem_range.mp hi
    omega
  · rintro ⟨h1, h2⟩
    exact ⟨x.toNat, List.mem_range.mpr (by omega), by omega⟩
/-! ### loops and comprehensions -/
theorem bind_ok {α β : Type} {m : M α} {f : α → M β} {w w' : W'} {a : α} (h : m w = .ok a w') : M.bind m f w = f a w' := by
  unfold M.bind
  rw [h]
theorem pure_bind {α β : Type} (a : α) (f : α → M β) : M.bind (M.pure a) f = f a := rfl
/-- a comprehension that changes nothing -/
theorem comp_pure {α : Type} {ρ1 : List Slot} {t : Tgt} {ft : X Bool} {fe : X D} (f : α → D) (p : α → Bool) (v : α → D) : ∀ (xs : List α) (acc : List D) (w : W'),
    (∀ x ∈ xs, ∃ ρ2, t.set (f x) ρ1 = some ρ2 ∧ (∀ w, ft ρ2 w = .ok (p x) w) ∧ (p x = true → ∀ w, fe ρ2 w = .ok (v x) w)) →
    compF ρ1 t ft fe (xs.map f) acc w = .ok (.list (acc ++ (xs.filter p).map v)) w
  | [], acc, w, _ => by
    show Res.ok (PyData.list acc) w = _
    simp
  | x :: xs, acc, w, h => by
    obtain ⟨ρ2, h1, h2, h3⟩ := h x List.mem_cons_self
    rw [List.map_cons]
    unfold compF
    rw [h1]
    dsimp only
    unfold M.bind
    rw [h2]
    dsimp only
    cases e : p x with
    | true =>
      rw [if_pos rfl]
      rw [h3 e]
      dsimp only
      rw [comp_pure f p v xs _ w fun y hy => h y (List.mem_cons_of_mem _ hy), List.filter_cons_of_pos e, List.map_cons]
      simp
    | false =>
      rw [if_neg Bool.false_ne_true]
      rw [comp_pure f p v xs _ w fun y hy => h y (List.mem_cons_of_mem _ hy), List.filter_cons_of_neg (by rw [e]; exact Bool.false_ne_true)]
theorem lc_pure {α : Type} {vs : List Nat} {t : Tgt} {fi : X (List D)} {ft : X Bool} {fe : X D} {ρ : List Slot} {w w' : W'} (f : α → D) (p : α → Bool) (v : α → D) (xs : List α) (hi : fi ρ w = .ok (xs.map f) w')
    (h : ∀ x ∈ xs, ∃ ρ2, t.set (f x) (wipeS ρ vs) = some ρ2 ∧ (∀ w, ft ρ2 w = .ok (p x) w) ∧ (p x = true → ∀ w, fe ρ2 w = .ok (v x) w)) :
    xLc vs t fi ft fe ρ w = .ok (.list ((xs.filter p).map v)) w' := by
  unfold xLc M.bind M.nerr
  rw [hi]
  dsimp only
  rw [comp_pure f p v xs [] w' h]
  rfl
/-- .. that draws -/
theorem comp_draw {α : Type} {ρ1 : List Slot} {t : Tgt} {fe : X D} (f : α → D) (v : Int → D) (P : Int → Prop) : ∀ (xs : List α) (acc : List D) (w : W'), DW w →
    (∀ x ∈ xs, ∃ ρ2, t.set (f x) ρ1 = some ρ2 ∧ ∀ w, DW w → ∃ r w', fe ρ2 w = .ok (v r) w' ∧ P r ∧ DW w') →
    ∃ (rs : List Int) (w' : W'), compF ρ1 t xYes fe (xs.map f) acc w = .ok (.list (acc ++ rs.map v)) w' ∧ rs.length = xs.length ∧ (∀ r ∈ rs, P r) ∧ DW w'
  | [], acc, w, d, _ => ⟨[], w, by show Res.ok (PyData.list acc) w = _; simp, rfl, by simp, d⟩
  | x :: xs, acc, w, d, h => by
    obtain ⟨ρ2, h1, h2⟩ := h x List.mem_cons_self
    obtain ⟨r, w1, e1, p1, d1⟩ := h2 w d
    obtain ⟨rs, w2, e2, l2, q2, d2⟩ := comp_draw f v P xs (acc ++ [v r]) w1 d1 fun y hy => h y (List.mem_cons_of_mem _ hy)
    refine ⟨r :: rs, w2, ?_, by rw [List.length_cons, List.length_cons, l2], ?_, d2⟩
    · rw [List.map_cons]
      unfold compF
      rw [h1]
      dsimp only
      show M.bind (fe ρ2) (fun y => compF ρ1 t xYes fe (xs.map f) (acc ++ [y])) w = _
      rw [bind_ok e1, e2]
      simp
    · intro z hz
      rcases List.mem_cons.mp hz with e | e
      · rw [e]; exact p1
      · exact q2 z e
theorem lc_draw {α : Type} {vs : List Nat} {t : Tgt} {fi : X (List D)} {fe : X D} {ρ : List Slot} {w w' : W'} (f : α → D) (v : Int → D) (P : Int → Prop) (xs : List α) (hi : fi ρ w = .ok (xs.map f) w') (d : DW w')
    (h : ∀ x ∈ xs, ∃ ρ2, t.set (f x) (wipeS ρ vs) = some ρ2 ∧ ∀ w, DW w → ∃ r w', fe ρ2 w = .ok (v r) w' ∧ P r ∧ DW w') :
    ∃ (rs : List Int) (w2 : W'), xLc vs t fi xYes fe ρ w = .ok (.list (rs.map v)) w2 ∧ rs.length = xs.length ∧ (∀ r ∈ rs, P r) ∧ DW w2 := by
  obtain ⟨rs, w2, e, l, q, d2⟩ := comp_draw f v P xs [] w' d h
  refine ⟨rs, w2, ?_, l, q, d2⟩
  unfold xLc M.bind M.nerr
  rw [hi]
  dsimp only
  rw [e]
  rfl
/-! ### the end that is wanted -/
def Good (r : SR) : Prop := ∃ w', r = .ret (.bool true) w'
section
variable {ρ : List Slot} {w w' : W'} {h f g : Sm} {fe : X D} {ft : X Bool}
theorem good_set {i : Nat} {d : D} (e : fe ρ w = .ok d w') (k : Good (h (ρ.set i (.d d)) w')) : Good (sSeq (sSet i fe) h ρ w) := by
  unfold sSeq sSet Res.to SR.seq
  rw [e]
  exact k
theorem good_if {b : Bool} (e : ft ρ w = .ok b w') (k : Good (sSeq (if b then f else g) h ρ w')) : Good (sSeq (sIf ft f g) h ρ w) := by
  unfold sSeq sIf Res.to at *
  rw [e]
  cases b with
  | true => exact k
  | false => exact k
theorem good_pass (k : Good (h ρ w)) : Good (sSeq sNx h ρ w) := k
theorem good_not (e : ft ρ w = .ok false w') (k : Good (h ρ w')) : Good (sSeq (sIf ft f sNx) h ρ w) := good_if e k
theorem good_ret (e : fe ρ w = .ok (.bool true) w') : Good (sRet fe ρ w) := by
  unfold sRet Res.to
  rw [e]
  exact ⟨_, rfl⟩
end
end DL

/-! The data layer, 10: mirrors that neither read nor write the world: what they answer in the empty world they answer in each. -/
namespace DL
open PySem PySem.Spec PyProof.Rows L2
def lf {α : Type} : Res α → W' → Res α
  | .ok a _, w => .ok a w
  | .err c _, w => .err c w
  | .bad, _ => .bad
def Pu {α : Type} (f : M α) : Prop := ∀ w, f w = lf (f []) w
def PuX {α : Type} (f : X α) : Prop := ∀ ρ, Pu (f ρ)
def lfS : SR → W' → SR
  | .nx ρ _, w => .nx ρ w
  | .ret d _, w => .ret d w
  | .bk ρ _, w => .bk ρ w
  | .ct ρ _, w => .ct ρ w
  | .err c ρ _, w => .err c ρ w
  | .bad, _ => .bad
def PuS (f : Sm) : Prop := ∀ ρ w, f ρ w = lfS (f ρ []) w
section
variable {α β : Type}
theorem pu_pure {a : α} : Pu (M.pure a) := fun _ => rfl
theorem pu_bad : Pu (M.bad : M α) := fun _ => rfl
theorem pu_err {c : Str} : Pu (M.err c : M α) := fun _ => rfl
theorem pu_bind {m : M α} {f : α → M β} (hm : Pu m) (hf : ∀ a, Pu (f a)) : Pu (M.bind m f) := by
  intro w
  unfold M.bind
  rw [hm w]
  cases m [] with
  | ok a v => dsimp only [lf]; rw [hf a w, hf a v]; cases f a [] <;> rfl
  | err c v => rfl
  | bad => rfl
theorem pu_chk {b : Bool} {m : M α} (h : Pu m) : Pu (chk b m) := by
  unfold chk
  cases b with
  | true => exact h
  | false => exact pu_bad
theorem pu_nerr {m : M α} (h : Pu m) : Pu (M.nerr m) := by
  intro w
  unfold M.nerr
  rw [h w]
  cases m [] <;> rfl
theorem pu_ite {b : Bool} {m n : M α} (h : Pu m) (h2 : Pu n) : Pu (if b then m else n) := by
  cases b with
  | true => exact h
  | false => exact h2
/-- what it answers -/
theorem pu_ok {m : M α} (h : Pu m) {a : α} {v : W'} (e : m [] = .ok a v) (w : W') : m w = .ok a w := by
  rw [h w, e]
  rfl
end
section
theorem pu_asB : ∀ d, Pu (asB d) := by intro d; unfold asB; split <;> first | exact pu_pure | exact pu_bad
theorem pu_asI : ∀ d, Pu (asI d) := by intro d; unfold asI; split <;> first | exact pu_pure | exact pu_bad
theorem pu_asL : ∀ d, Pu (asL d) := by intro d; unfold asL; split <;> first | exact pu_pure | exact pu_bad
theorem pu_asS : ∀ d, Pu (asS d) := by intro d; unfold asS; split <;> first | exact pu_pure | exact pu_bad
theorem pu_asU : ∀ d, Pu (asU d) := by intro d; unfold asU; split <;> first | exact pu_pure | exact pu_bad
theorem pu_kAdd : ∀ a b, Pu (kAdd a b) := by intro a b; unfold kAdd; split <;> first | exact pu_pure | exact pu_chk pu_pure | exact pu_bad
theorem pu_kI (f : Int → Int → D) : ∀ a b, Pu (kI f a b) := by intro a b; unfold kI; split <;> first | exact pu_pure | exact pu_bad
theorem pu_kIc (C : Int → Int → Bool) (f : Int → Int → D) : ∀ a b, Pu (kIc C f a b) := by intro a b; unfold kIc; split <;> first | exact pu_chk pu_pure | exact pu_bad
theorem pu_kSub : ∀ a b, Pu (kSub a b) := pu_kI _
theorem pu_kLt : ∀ a b, Pu (kLt a b) := pu_kI _
theorem pu_kLe : ∀ a b, Pu (kLe a b) := pu_kI _
theorem pu_kGt : ∀ a b, Pu (kGt a b) := pu_kI _
theorem pu_kGe : ∀ a b, Pu (kGe a b) := pu_kI _
theorem pu_kDiv : ∀ a b, Pu (kDiv a b) := pu_kIc _ _
theorem pu_kMod : ∀ a b, Pu (kMod a b) := pu_kIc _ _
theorem pu_kMul : ∀ a b, Pu (kMul a b) := by intro a b; unfold kMul; split <;> first | exact pu_chk pu_pure | exact pu_bad
theorem pu_kEq : ∀ a b, Pu (kEq a b) := fun _ _ => pu_chk pu_pure
theorem pu_kNe : ∀ a b, Pu (kNe a b) := fun _ _ => pu_chk pu_pure
theorem pu_kIn : ∀ a b, Pu (kIn a b) := by
  intro a b
  unfold kIn
  split
  · exact pu_chk pu_pure
  · split
    · exact pu_pure
    · exact pu_bad
  · exact pu_bad
theorem pu_kNotIn : ∀ a b, Pu (kNotIn a b) := by
  intro a b
  unfold kNotIn
  split
  · exact pu_chk pu_pure
  · exact pu_bad
theorem pu_kIs : ∀ a b, Pu (kIs a b) := by
  intro a b
  unfold kIs
  split
  · exact pu_pure
  · split
    · exact pu_pure
    · exact pu_bad
  · exact pu_bad
theorem pu_kIsNot : ∀ a b, Pu (kIsNot a b) := by
  intro a b
  unfold kIsNot
  split
  · exact pu_pure
  · split
    · exact pu_pure
    · exact pu_bad
  · exact pu_bad
theorem pu_kIx : ∀ a b, Pu (kIx a b) := by
  intro a b
  unfold kIx
  split
  · split
    · exact pu_pure
    · exact pu_bad
  · split
    · exact pu_pure
    · exact pu_bad
  · split
    · exact pu_chk pu_pure
    · exact pu_bad
  · exact pu_bad
theorem pu_kSl : ∀ d l h, Pu (kSl d l h) := by intro d l h; unfold kSl; split <;> first | exact pu_pure | exact pu_chk pu_pure | exact pu_bad
theorem pu_kRev : ∀ d, Pu (kRev d) := by intro d; unfold kRev; split <;> first | exact pu_pure | exact pu_bad
theorem pu_kNeg : ∀ d, Pu (kNeg d) := by intro d; unfold kNeg; split <;> first | exact pu_pure | exact pu_bad
theorem pu_onInts {α : Type} {d : D} {f : List Int → M α} (h : ∀ ns, Pu (f ns)) : Pu (onInts d f) := by
  unfold onInts
  split
  · split
    · exact h _
    · exact pu_bad
  · exact pu_bad
theorem pu_onSeq {α : Type} {d : D} {f : List Int → M α} (h : ∀ ns, Pu (f ns)) : Pu (onSeq d f) := by
  unfold onSeq
  split
  · split
    · exact h _
    · exact pu_bad
  · exact pu_onInts h
theorem pu_kMax : ∀ d, Pu (kMax d) := by intro d; unfold kMax; split <;> first | exact pu_onInts fun _ => pu_chk pu_pure | exact pu_bad
theorem pu_kMin : ∀ d, Pu (kMin d) := by intro d; unfold kMin; split <;> first | exact pu_onInts fun _ => pu_chk pu_pure | exact pu_bad
theorem pu_kMax2 : ∀ d, Pu (kMax2 d) := by intro d; unfold kMax2; split <;> first | exact pu_kI _ _ _ | exact pu_bad
theorem pu_kMin2 : ∀ d, Pu (kMin2 d) := by intro d; unfold kMin2; split <;> first | exact pu_kI _ _ _ | exact pu_bad
theorem pu_kSum : ∀ d, Pu (kSum d) := by intro d; unfold kSum; split <;> first | exact pu_onSeq fun _ => pu_pure | exact pu_bad
theorem pu_kSortI : ∀ d, Pu (kSortI d) := by intro d; unfold kSortI; split <;> first | exact pu_onSeq fun _ => pu_chk pu_pure | exact pu_bad
theorem pu_kLen : ∀ d, Pu (kLen d) := by intro d; unfold kLen; split <;> first | exact pu_pure | exact pu_chk pu_pure | exact pu_bad
theorem pu_kList : ∀ d, Pu (kList d) := by intro d; unfold kList; split <;> first | exact pu_pure | exact pu_bad
theorem pu_kTuple : ∀ d, Pu (kTuple d) := by intro d; unfold kTuple; split <;> first | exact pu_pure | exact pu_bad
theorem pu_kAll : ∀ d, Pu (kAll d) := by
  intro d
  unfold kAll
  split
  · split
    · exact pu_pure
    · exact pu_bad
  · exact pu_bad
theorem pu_kAbs : ∀ d, Pu (kAbs d) := by intro d; unfold kAbs; split <;> first | exact pu_pure | exact pu_bad
theorem pu_kStr : ∀ d, Pu (kStr d) := by intro d; unfold kStr; split <;> first | exact pu_chk pu_pure | exact pu_bad
theorem pu_kInt : ∀ d, Pu (kInt d) := by
  intro d
  unfold kInt
  split
  · split
    · exact pu_chk pu_pure
    · exact pu_bad
  · exact pu_bad
theorem pu_kIsi (T : String) : ∀ d, Pu (kIsi T d) := by intro d; unfold kIsi; split <;> first | exact pu_pure | exact pu_bad
theorem pu_kLstRg : ∀ d, Pu (kLstRg d) := by intro d; unfold kLstRg; split <;> first | exact pu_chk pu_pure | exact pu_bad
theorem pu_kTupRg : ∀ d, Pu (kTupRg d) := by intro d; unfold kTupRg; split <;> first | exact pu_chk pu_pure | exact pu_bad
theorem pu_kRg : ∀ d, Pu (kRg d) := by intro d; unfold kRg; split <;> first | exact pu_chk pu_pure | exact pu_bad
theorem pu_kRg2 : ∀ d, Pu (kRg2 d) := by intro d; unfold kRg2; split <;> first | exact pu_chk pu_pure | exact pu_bad
theorem pu_kZip : ∀ d, Pu (kZip d) := by intro d; unfold kZip; split <;> first | exact pu_pure | exact pu_bad
theorem pu_kEnum : ∀ d, Pu (kEnum d) := by intro d; unfold kEnum; split <;> first | exact pu_pure | exact pu_bad
theorem pu_kIndex : ∀ d ds, Pu (kIndex d ds) := by
  intro d ds
  unfold kIndex
  split
  · refine pu_chk ?_
    split
    · exact pu_pure
    · exact pu_bad
  · exact pu_bad
theorem pu_kCount : ∀ d ds, Pu (kCount d ds) := by intro d ds; unfold kCount; split <;> first | exact pu_onInts fun _ => pu_pure | exact pu_bad
end
/-! ### expressions -/
section
variable {α : Type}
theorem pu_xVar {i : Nat} : PuX (xVar i) := by
  intro ρ
  unfold xVar
  split <;> first | exact pu_pure | exact pu_bad
theorem pu_xPeek {i : Nat} : PuX (xPeek i) := by
  intro ρ
  unfold xPeek
  split <;> first | exact pu_pure | exact pu_bad
theorem pu_xC {d : D} : PuX (xC d) := fun _ => pu_pure
theorem pu_x1 {k : D → M D} {f : X D} (hk : ∀ d, Pu (k d)) (hf : PuX f) : PuX (x1 k f) := fun ρ => pu_bind (hf ρ) hk
theorem pu_x2 {k : D → D → M D} {f g : X D} (hk : ∀ a b, Pu (k a b)) (hf : PuX f) (hg : PuX g) : PuX (x2 k f g) := fun ρ => pu_bind (hf ρ) fun a => pu_bind (hg ρ) (hk a)
theorem pu_x3 {k k' : D → D → M D} {f g h : X D} (hk : ∀ a b, Pu (k a b)) (hk' : ∀ a b, Pu (k' a b)) (hf : PuX f) (hg : PuX g) (hh : PuX h) : PuX (x3 k k' f g h) :=
  fun ρ => pu_bind (hf ρ) fun a => pu_bind (hg ρ) fun b => pu_bind (hk a b) fun z => pu_bind (pu_asB z) fun t => pu_ite (pu_bind (hh ρ) fun u => hk' b u) pu_pure
theorem pu_xT {f : X D} (hf : PuX f) : PuX (xT f) := fun ρ => pu_bind (hf ρ) pu_asB
theorem pu_xAnd {f g : X Bool} (hf : PuX f) (hg : PuX g) : PuX (xAnd f g) := fun ρ => pu_bind (hf ρ) fun _ => pu_ite (hg ρ) pu_pure
theorem pu_xOr {f g : X Bool} (hf : PuX f) (hg : PuX g) : PuX (xOr f g) := fun ρ => pu_bind (hf ρ) fun _ => pu_ite pu_pure (hg ρ)
theorem pu_xNot {f : X Bool} (hf : PuX f) : PuX (xNot f) := fun ρ => pu_bind (hf ρ) fun _ => pu_pure
theorem pu_xAndV {f g : X D} (hf : PuX f) (hg : PuX g) : PuX (xAndV f g) := fun ρ => pu_bind (hf ρ) fun x => pu_bind (pu_asB x) fun _ => pu_ite (hg ρ) pu_pure
theorem pu_xOrV {f g : X D} (hf : PuX f) (hg : PuX g) : PuX (xOrV f g) := fun ρ => pu_bind (hf ρ) fun x => pu_bind (pu_asB x) fun _ => pu_ite pu_pure (hg ρ)
theorem pu_xNotV {f : X D} (hf : PuX f) : PuX (xNotV f) := fun ρ => pu_bind (hf ρ) fun x => pu_bind (pu_asB x) fun _ => pu_pure
theorem pu_xIf {t : X Bool} {f g : X D} (ht : PuX t) (hf : PuX f) (hg : PuX g) : PuX (xIf t f g) := fun ρ => pu_bind (ht ρ) fun _ => pu_ite (hf ρ) (hg ρ)
theorem pu_xNil : PuX xNil := fun _ => pu_pure
theorem pu_xCons {f : X D} {fs : X (List D)} (hf : PuX f) (hfs : PuX fs) : PuX (xCons f fs) := fun ρ => pu_bind (hf ρ) fun _ => pu_bind (hfs ρ) fun _ => pu_pure
theorem pu_xNoPart : PuX xNoPart := fun _ => pu_pure
theorem pu_xPart {f : X D} (hf : PuX f) : PuX (xPart f) := fun ρ => pu_bind (hf ρ) fun d => pu_bind (pu_asI d) fun _ => pu_pure
theorem pu_xSl {f : X D} {l h : X (Option Int)} (hf : PuX f) (hl : PuX l) (hh : PuX h) : PuX (xSl f l h) := fun ρ => pu_bind (hf ρ) fun x => pu_bind (hl ρ) fun a => pu_bind (hh ρ) fun b => pu_kSl x a b
theorem pu_xLst {fs : X (List D)} (hf : PuX fs) : PuX (xLst fs) := fun ρ => pu_bind (hf ρ) fun _ => pu_pure
theorem pu_xTup {fs : X (List D)} (hf : PuX fs) : PuX (xTup fs) := fun ρ => pu_bind (hf ρ) fun _ => pu_pure
theorem pu_xCall {k : List D → M D} {fs : X (List D)} (hk : ∀ ds, Pu (k ds)) (hf : PuX fs) : PuX (xCall k fs) := fun ρ => pu_bind (hf ρ) hk
theorem pu_xMeth {T : String} {k : D → List D → M D} {fo : X D} {fs : X (List D)} (hk : ∀ d ds, Pu (k d ds)) (ho : PuX fo) (hf : PuX fs) : PuX (xMeth T k fo fs) :=
  fun ρ => pu_bind (ho ρ) fun o => pu_chk (pu_bind (hf ρ) fun ds => hk o ds)
theorem pu_xIt {k : D → M (List D)} {f : X D} (hk : ∀ d, Pu (k d)) (hf : PuX f) : PuX (xIt k f) := fun ρ => pu_bind (hf ρ) hk
theorem pu_xItL {k : List D → M (List D)} {fs : X (List D)} (hk : ∀ d, Pu (k d)) (hf : PuX fs) : PuX (fun ρ => M.bind (fs ρ) k) := fun ρ => pu_bind (hf ρ) hk
theorem pu_compF {ρ1 : List Slot} {t : Tgt} {ft : X Bool} {fe : X D} (ht : PuX ft) (he : PuX fe) : ∀ (ds acc : List D), Pu (compF ρ1 t ft fe ds acc)
  | [], acc => pu_pure
  | d :: r, acc => by
    unfold compF
    split
    · exact pu_bad
    · exact pu_bind (ht _) fun b => pu_ite (pu_bind (he _) fun y => pu_compF ht he r _) (pu_compF ht he r _)
theorem pu_xYes : PuX xYes := fun _ => pu_pure
theorem pu_xLc {vs : List Nat} {t : Tgt} {fi : X (List D)} {ft : X Bool} {fe : X D} (hi : PuX fi) (ht : PuX ft) (he : PuX fe) : PuX (xLc vs t fi ft fe) :=
  fun ρ => pu_bind (hi ρ) fun ds => pu_nerr (pu_compF ht he ds [])
end
/-! ### statements -/
section
variable {α : Type}
theorem pus_to {m : M α} (h : Pu m) {ρ : List Slot} {k : α → W' → SR} (hk : ∀ a w, k a w = lfS (k a []) w) : ∀ w, (m w).to ρ k = lfS ((m []).to ρ k) w := by
  intro w
  rw [h w]
  cases m [] with
  | ok a v => show k a w = lfS (k a v) w; rw [hk a w, hk a v]; cases k a [] <;> rfl
  | err c v => rfl
  | bad => rfl
theorem pus_nx : PuS sNx := fun _ _ => rfl
theorem pus_bk : PuS sBk := fun _ _ => rfl
theorem pus_ct : PuS sCt := fun _ _ => rfl
theorem pus_retN : PuS sRetN := fun _ _ => rfl
theorem pus_err {c : Str} : PuS (sErr c) := fun _ _ => rfl
theorem pus_seq {f h : Sm} (hf : PuS f) (hh : PuS h) : PuS (sSeq f h) := by
  intro ρ w
  unfold sSeq
  rw [hf ρ w]
  cases f ρ [] with
  | nx ρ2 v => show h ρ2 w = lfS (h ρ2 v) w; rw [hh ρ2 w, hh ρ2 v]; cases h ρ2 [] <;> rfl
  | _ => rfl
theorem pus_frz {i : Nat} {f : Sm} (hf : PuS f) : PuS (sFrz i f) := by
  intro ρ w
  unfold sFrz
  split
  · exact hf _ w
  · rfl
theorem pus_drop {fe : X D} (h : PuX fe) : PuS (sDrop fe) := fun ρ w => pus_to (h ρ) (fun _ _ => rfl) w
theorem pus_ret {fe : X D} (h : PuX fe) : PuS (sRet fe) := fun ρ w => pus_to (h ρ) (fun _ _ => rfl) w
theorem pus_if {t : X Bool} {f h : Sm} (ht : PuX t) (hf : PuS f) (hh : PuS h) : PuS (sIf t f h) := fun ρ w => pus_to (ht ρ) (fun b w => by
  cases b with
  | true => exact hf ρ w
  | false => exact hh ρ w) w
theorem pus_set {i : Nat} {fe : X D} (h : PuX fe) : PuS (sSet i fe) := fun ρ w => pus_to (h ρ) (fun _ _ => rfl) w
theorem pus_own {i : Nat} {fe : X D} (h : PuX fe) : PuS (sOwn i fe) := fun ρ w => pus_to (h ρ) (fun d w => by cases d <;> rfl) w
theorem pus_tgt {t : Tgt} {fe : X D} (h : PuX fe) : PuS (sTgt t fe) := fun ρ w => pus_to (h ρ) (fun d w => by split <;> rfl) w
theorem pus_par {i j : Nat} {fs : X (List D)} (h : PuX fs) : PuS (sPar i j fs) := fun ρ w => pus_to (h ρ) (fun d w => by split <;> rfl) w
theorem pus_par3 {i j l : Nat} {fs : X (List D)} (h : PuX fs) : PuS (sPar3 i j l fs) := fun ρ w => pus_to (h ρ) (fun d w => by split <;> rfl) w
theorem pus_augI {i : Nat} {k : Int → Int → Int} {fe : X D} (h : PuX fe) : PuS (sAugI i k fe) := by
  intro ρ w
  unfold sAugI
  split
  · exact pus_to (h ρ) (fun d w => by split <;> rfl) w
  · rfl
theorem pus_ext {i : Nat} {fe : X D} (h : PuX fe) : PuS (sExt i fe) := by
  intro ρ w
  unfold sExt
  split
  · refine pus_to (h ρ) (fun d w => ?_) w
    split
    · split <;> rfl
    · rfl
  · rfl
theorem pus_app {i : Nat} {fe : X D} (h : PuX fe) : PuS (sApp i fe) := by
  intro ρ w
  unfold sApp
  split
  · refine pus_to (h ρ) (fun d w => ?_) w
    split <;> rfl
  · rfl
theorem pus_putAt {i : Nat} {xs : List D} {d j : D} : PuS (putAt i xs d j) := by
  intro ρ w
  unfold putAt
  split
  · split <;> rfl
  · rfl
theorem pus_put {i : Nat} {fj fe : X D} (hj : PuX fj) (h : PuX fe) : PuS (sPut i fj fe) := by
  intro ρ w
  unfold sPut
  split
  · refine pus_to (h ρ) (fun d w => ?_) w
    refine pus_to (hj ρ) (fun j w => ?_) w
    exact pus_putAt ρ w
  · rfl
theorem lfS_seq {f h : Sm} (hf : PuS f) (hh : PuS h) (ρ : List Slot) (w : W') : (f ρ w).seq h = lfS ((f ρ []).seq h) w := pus_seq hf hh ρ w
theorem pus_put2 {i : Nat} {fj fk fe : X D} (hj : PuX fj) (hk : PuX fk) (h : PuX fe) : PuS (sPut2 i fj fk fe) := by
  intro ρ w
  unfold sPut2
  split
  · refine pus_to (h ρ) (fun d w => ?_) w
    split
    · refine pus_to (hj ρ) (fun j w => ?_) w
      refine lfS_seq pus_putAt (fun ρ1 w => ?_) ρ w
      split
      · refine pus_to (hk ρ1) (fun k w => ?_) w
        exact pus_putAt ρ1 w
      · rfl
    · rfl
  · rfl
theorem pus_augAt {i : Nat} {k : Int → Int → Int} {fj fe : X D} (hj : PuX fj) (h : PuX fe) : PuS (sAugAt i k fj fe) := by
  intro ρ w
  unfold sAugAt
  split
  · refine pus_to (hj ρ) (fun j w => ?_) w
    split
    · split
      · refine pus_to (h ρ) (fun d w => ?_) w
        split
        · exact pus_putAt ρ w
        · rfl
      · rfl
    · rfl
  · rfl
theorem pus_forF {t : Tgt} {b : Sm} (hb : PuS b) : ∀ ds : List D, PuS (forF t b ds)
  | [] => fun _ _ => rfl
  | d :: r => by
    intro ρ w
    unfold forF
    cases t.set d ρ with
    | none => rfl
    | some ρ1 =>
      dsimp only
      rw [hb ρ1 w]
      cases b ρ1 [] with
      | nx ρ2 v => dsimp only [lfS]; rw [pus_forF hb r ρ2 w, pus_forF hb r ρ2 v]; cases forF t b r ρ2 [] <;> rfl
      | ct ρ2 v => dsimp only [lfS]; rw [pus_forF hb r ρ2 w, pus_forF hb r ρ2 v]; cases forF t b r ρ2 [] <;> rfl
      | _ => rfl
theorem pus_for {fi : X (List D)} {t : Tgt} {b : Sm} (hi : PuX fi) (hb : PuS b) : PuS (sFor fi t b) := fun ρ w => pus_to (hi ρ) (fun ds w => pus_forF hb ds ρ w) w
theorem pus_whF {ft : X Bool} {b : Sm} (ht : PuX ft) (hb : PuS b) : ∀ n : Nat, PuS (whF ft b n)
  | 0 => fun _ _ => rfl
  | n + 1 => by
    intro ρ w
    unfold whF
    refine pus_to (ht ρ) (fun c w => ?_) w
    cases c with
    | false => rfl
    | true =>
      rw [if_pos rfl, if_pos rfl]
      rw [hb ρ w]
      cases b ρ [] with
      | nx ρ2 v => dsimp only [lfS]; rw [pus_whF ht hb n ρ2 w, pus_whF ht hb n ρ2 v]; cases whF ft b n ρ2 [] <;> rfl
      | ct ρ2 v => dsimp only [lfS]; rw [pus_whF ht hb n ρ2 w, pus_whF ht hb n ρ2 v]; cases whF ft b n ρ2 [] <;> rfl
      | _ => rfl
theorem pus_while {ft : X Bool} {b : Sm} (ht : PuX ft) (hb : PuS b) : PuS (sWhile ft b) := pus_whF ht hb 1000
theorem pu_runF {n : Nat} {b : Sm} (hb : PuS b) : ∀ ds, Pu (runF n b ds) := by
  intro ds w
  unfold runF
  rw [hb _ w]
  cases b (ds.map Slot.d ++ List.replicate (n - ds.length) Slot.un) [] <;> rfl
end
end DL

/-! The data layer, 11: pure parts settled by the kernel. -/
namespace DL
open PySem PySem.Spec PyProof.Rows L2
mutual
def beqD : D → D → Bool
  | .none, .none => true
  | .bool a, .bool b => a == b
  | .int a, .int b => decide (a = b)
  | .str a, .str b => decide (a = b)
  | .list a, .list b => beqDs a b
  | .tuple a, .tuple b => beqDs a b
  | _, _ => false
def beqDs : List D → List D → Bool
  | [], [] => true
  | x :: xs, y :: ys => beqD x y && beqDs xs ys
  | _, _ => false
end
mutual
theorem beqD_eq : ∀ a b : D, beqD a b = true → a = b
  | .none, b, h => by cases b <;> first | rfl | (exfalso; simp [beqD] at h)
  | .bool a, b, h => by
    cases b <;> first | (exfalso; simp [beqD] at h; done) | skip
    simp only [beqD, beq_iff_eq] at h
    rw [h]
  | .int a, b, h => by
    cases b <;> first | (exfalso; simp [beqD] at h; done) | skip
    simp only [beqD, decide_eq_true_eq] at h
    rw [h]
  | .str a, b, h => by
    cases b <;> first | (exfalso; simp [beqD] at h; done) | skip
    simp only [beqD, decide_eq_true_eq] at h
    rw [h]
  | .list a, b, h => by
    cases b <;> first | (exfalso; simp [beqD] at h; done) | skip
    simp only [beqD] at h
    rw [beqDs_eq a _ h]
  | .tuple a, b, h => by
    cases b <;> first | (exfalso; simp [beqD] at h; done) | skip
    simp only [beqD] at h
    rw [beqDs_eq a _ h]
  | .dict a, b, h => by exfalso; simp [beqD] at h
theorem beqDs_eq : ∀ a b : List D, beqDs a b = true → a = b
  | [], b, h => by cases b <;> first | rfl | (exfalso; simp [beqDs] at h)
  | x :: xs, b, h => by
    cases b with
    | nil => exfalso; simp [beqDs] at h
    | cons y ys =>
      simp only [beqDs, Bool.and_eq_true] at h
      rw [beqD_eq x y h.1, beqDs_eq xs ys h.2]
end
def eqOk (r : Res D) (v : D) : Bool := match r with
  | .ok d _ => beqD d v
  | _ => false
theorem pu_eq {m : M D} (h : Pu m) {v : D} (e : eqOk (m []) v = true) (w : W') : m w = .ok v w := by
  unfold eqOk at e
  cases hm : m [] with
  | ok d u =>
    rw [hm] at e
    rw [beqD_eq _ _ e] at hm
    exact pu_ok h hm w
  | err c u => rw [hm] at e; exact absurd e Bool.false_ne_true
  | bad => rw [hm] at e; exact absurd e Bool.false_ne_true
def isF (r : Res Bool) : Bool := match r with
  | .ok b _ => !b
  | _ => false
def isT (r : Res Bool) : Bool := match r with
  | .ok b _ => b
  | _ => false
theorem pu_F {m : M Bool} (h : Pu m) (e : isF (m []) = true) (w : W') : m w = .ok false w := by
  unfold isF at e
  cases hm : m [] with
  | ok b u =>
    rw [hm] at e
    cases b with
    | true => exact absurd e Bool.false_ne_true
    | false => exact pu_ok h hm w
  | err c u => rw [hm] at e; exact absurd e Bool.false_ne_true
  | bad => rw [hm] at e; exact absurd e Bool.false_ne_true
theorem pu_T {m : M Bool} (h : Pu m) (e : isT (m []) = true) (w : W') : m w = .ok true w := by
  unfold isT at e
  cases hm : m [] with
  | ok b u =>
    rw [hm] at e
    cases b with
    | false => exact absurd e Bool.false_ne_true
    | true => exact pu_ok h hm w
  | err c u => rw [hm] at e; exact absurd e Bool.false_ne_true
  | bad => rw [hm] at e; exact absurd e Bool.false_ne_true
/-- a law's part that answers True -/
def isRT (r : SR) : Bool := match r with
  | .ret (.bool b) _ => b
  | _ => false
theorem pus_T {f : Sm} (h : PuS f) {ρ : List Slot} (e : isRT (f ρ []) = true) (w : W') : Good (f ρ w) := by
  unfold isRT at e
  rw [h ρ w]
  split at e
  · rename_i b v q
    rw [q, e]
    exact ⟨_, rfl⟩
  · exact absurd e Bool.false_ne_true
def allN (n : Nat) (p : Int → Bool) : Bool := (List.range n).all fun (i : Nat) => p (i : Int)
theorem of_allN {n : Nat} {p : Int → Bool} (h : allN n p = true) {r : Int} (h0 : 0 ≤ r) (h1 : r < n) : p r = true := by
  have := List.all_eq_true.mp h r.toNat (List.mem_range.mpr (by omega))
  rwa [Int.toNat_of_nonneg h0] at this
section
variable {ρ : List Slot} {w w' : W'} {h f g : Sm} {fe : X D} {ft : X Bool}
theorem good_setP {i : Nat} {d : D} (p : PuX fe) (e : eqOk (fe ρ []) d = true) (k : Good (h (ρ.set i (.d d)) w)) : Good (sSeq (sSet i fe) h ρ w) :=
  good_set (pu_eq (p ρ) e w) k
theorem good_skip (p : PuX ft) (e : isF (ft ρ []) = true) (k : Good (h ρ w)) : Good (sSeq (sIf ft f sNx) h ρ w) :=
  good_not (pu_F (p ρ) e w) k
end
/-- a draw as it stands in a law -/
theorem xdraw {ρ : List Slot} {w : W'} {n : Int} {fn : X D} (d : DW w) (h1 : ρ[1]? = some (.d (hnd 0))) (hn : ∀ w, fn ρ w = .ok (.int n) w) (p : 0 < n) (q : n < 1000000) :
    ∃ r w', xCall m__law_draw (xCons (xVar 1) (xCons fn xNil)) ρ w = .ok (.int r) w' ∧ 0 ≤ r ∧ r < n ∧ DW w' := by
  obtain ⟨r, w', e, a, b, c⟩ := draw_ok d p q
  refine ⟨r, w', ?_, a, b, c⟩
  have hv : xVar 1 ρ = M.pure (hnd 0) := by
    unfold xVar
    rw [h1]
  unfold xCall xCons
  rw [hv]
  simp only [pure_bind]
  unfold M.bind xNil M.pure
  simp only [hn]
  exact e
end DL

/-! The data layer, 12: groupings as rows of numbers; the laws' own draws. -/
namespace DL
open PySem PySem.Spec PyProof.Rows L2
/-- how many groups a row has -/
def topN (row : List Int) : Nat := (row.foldl max (-1) + 1).toNat
/-- all groupings of so many things, in the program's order -/
def rgs : Nat → List (List Int)
  | 0 => [[]]
  | n + 1 => (rgs n).flatMap fun row => (rg (topN row + 1)).map fun g => row ++ [g]
section
variable {ρ : List Slot} {w w' : W'}
theorem x2_r {k : D → D → M D} {c d : D} {fb : X D} (e : fb ρ w = .ok d w') : x2 k (xC c) fb ρ w = k c d w' := by
  unfold x2
  show M.bind (fb ρ) (fun y => k c y) w = _
  rw [bind_ok e]
theorem xNil_ok : xNil ρ w = .ok [] w := rfl
theorem xC_ok {d : D} : xC d ρ w = .ok d w := rfl
theorem xVar_ok {i : Nat} {d : D} (h : ρ[i]? = some (.d d)) : xVar i ρ w = .ok d w := by
  unfold xVar
  rw [h]
  rfl
theorem xCons_ok {f : X D} {fs : X (List D)} {d : D} {ds : List D} {w1 : W'} (e : f ρ w = .ok d w1) (es : fs ρ w1 = .ok ds w') : xCons f fs ρ w = .ok (d :: ds) w' := by
  show M.bind (f ρ) (fun x => M.bind (fs ρ) fun xs => M.pure (x :: xs)) w = _
  rw [bind_ok e, bind_ok es]
  rfl
theorem xCall_ok {k : List D → M D} {fs : X (List D)} {ds : List D} (e : fs ρ w = .ok ds w') : xCall k fs ρ w = k ds w' := by
  show M.bind (fs ρ) k w = _
  rw [bind_ok e]
theorem x2_ok {k : D → D → M D} {f g : X D} {a b : D} {w1 : W'} (ea : f ρ w = .ok a w1) (eb : g ρ w1 = .ok b w') : x2 k f g ρ w = k a b w' := by
  show M.bind (f ρ) (fun x => M.bind (g ρ) fun y => k x y) w = _
  rw [bind_ok ea, bind_ok eb]
theorem x1_ok {k : D → M D} {f : X D} {a : D} (ea : f ρ w = .ok a w') : x1 k f ρ w = k a w' := by
  show M.bind (f ρ) k w = _
  rw [bind_ok ea]
end
/-- a pick -/
def p_pick : List D → M D := runF 2 (sRet (x2 kIx (xVar 1) (xCall m__law_draw (xCons (xVar 0) (xCons (xCall kLen (xCons (xVar 1) xNil)) xNil)))))
theorem pick_ok {α : Type} [DecidableEq α] [Enc α] [Sh α] {xs : List α} {w : W'} (d : DW w) (h0 : 0 < xs.length) (h1 : xs.length < 1000000) :
    ∃ (a : α) (w' : W'), a ∈ xs ∧ p_pick [hnd 0, eL xs] w = .ok (Enc.e a) w' ∧ DW w' := by
  obtain ⟨r, w', e, r0, r1, d'⟩ := draw_ok d (n := (xs.length : Nat)) (by omega) (by omega)
  have hr : r.toNat < xs.length := by omega
  have hg : xs[r.toNat]? = some xs[r.toNat] := List.getElem?_eq_getElem hr
  refine ⟨xs[r.toNat], w', List.getElem_mem hr, ?_, d'⟩
  have hx : kIx (eL xs) (.int r) = M.pure (Enc.e xs[r.toNat]) := by
    have := kIx_l hg
    rwa [Int.toNat_of_nonneg r0] at this
  have hl : kLen [eL xs] w = .ok (.int (xs.length : Nat)) w := by rw [kLen_l]; rfl
  have hb : x2 kIx (xVar 1) (xCall m__law_draw (xCons (xVar 0) (xCons (xCall kLen (xCons (xVar 1) xNil)) xNil))) [.d (hnd 0), .d (eL xs)] w = .ok (Enc.e xs[r.toNat]) w' := by
    rw [x2_ok (xVar_ok rfl) ((xCall_ok (xCons_ok (xVar_ok rfl) (xCons_ok ((xCall_ok (xCons_ok (xVar_ok rfl) xNil_ok)).trans hl) xNil_ok))).trans e), hx]
    rfl
  show (match (x2 kIx (xVar 1) (xCall m__law_draw (xCons (xVar 0) (xCons (xCall kLen (xCons (xVar 1) xNil)) xNil))) [.d (hnd 0), .d (eL xs)] w).to _ _ with | .ret d w' => Res.ok d w' | .nx _ w' => .ok .none w' | .err c _ w' => .err c w' | _ => .bad) = _
  rw [hb]
  rfl
end DL

/-! The data layer, 13: what mirrors compute, by rewriting. -/
namespace DL
open PySem PySem.Spec PyProof.Rows L2
/-- by meaning, but for simp no meaning -/
theorem nr {α : Sort _} {a b : α} (h : a = b) : a = b := h
/-! ### answers of statements -/
def S.nx (ρ : List Slot) : W' → SR := fun w => .nx ρ w
def S.ret (d : D) : W' → SR := fun w => .ret d w
def S.bk (ρ : List Slot) : W' → SR := fun w => .bk ρ w
def S.ct (ρ : List Slot) : W' → SR := fun w => .ct ρ w
def S.err (c : Str) (ρ : List Slot) : W' → SR := fun w => .err c ρ w
def S.bad : W' → SR := fun _ => .bad
def bindS {α : Type} (m : M α) (ρ : List Slot) (k : α → W' → SR) : W' → SR := fun w => (m w).to ρ k
def seqS (r : W' → SR) (h : Sm) : W' → SR := fun w => (r w).seq h
def runS (r : W' → SR) : M D := fun w => match r w with
  | .ret d w' => .ok d w'
  | .nx _ w' => .ok .none w'
  | .err c _ w' => .err c w'
  | _ => .bad
section
variable {α β : Type} {ρ : List Slot}
@[simp] theorem v_bind_pure (a : α) (f : α → M β) : M.bind (M.pure a) f = f a := nr rfl
@[simp] theorem v_bind_err (c : Str) (f : α → M β) : M.bind (M.err c) f = M.err c := nr rfl
@[simp] theorem v_bind_bad (f : α → M β) : M.bind M.bad f = M.bad := nr rfl
@[simp] theorem v_bind_ite (b : Prop) [Decidable b] (x y : M α) (f : α → M β) : M.bind (if b then x else y) f = if b then M.bind x f else M.bind y f := by split <;> rfl
@[simp] theorem v_bindS_pure (a : α) (k : α → W' → SR) : bindS (M.pure a) ρ k = k a := nr rfl
@[simp] theorem v_bindS_err (c : Str) (k : α → W' → SR) : bindS (M.err c) ρ k = S.err c ρ := nr rfl
@[simp] theorem v_bindS_ite (b : Prop) [Decidable b] (x y : M α) (k : α → W' → SR) : bindS (if b then x else y) ρ k = if b then bindS x ρ k else bindS y ρ k := by split <;> rfl
@[simp] theorem v_seq_nx (h : Sm) : seqS (S.nx ρ) h = h ρ := nr rfl
@[simp] theorem v_seq_ret (d : D) (h : Sm) : seqS (S.ret d) h = S.ret d := nr rfl
@[simp] theorem v_seq_err (c : Str) (h : Sm) : seqS (S.err c ρ) h = S.err c ρ := nr rfl
@[simp] theorem v_seq_bk (h : Sm) : seqS (S.bk ρ) h = S.bk ρ := nr rfl
@[simp] theorem v_seq_ct (h : Sm) : seqS (S.ct ρ) h = S.ct ρ := nr rfl
@[simp] theorem v_seq_ite (b : Prop) [Decidable b] (x y : W' → SR) (h : Sm) : seqS (if b then x else y) h = if b then seqS x h else seqS y h := by split <;> rfl
@[simp] theorem v_run_ret (d : D) : runS (S.ret d) = M.pure d := nr rfl
@[simp] theorem v_run_nx : runS (S.nx ρ) = M.pure .none := nr rfl
@[simp] theorem v_run_err (c : Str) : runS (S.err c ρ) = M.err c := nr rfl
@[simp] theorem v_run_ite (b : Prop) [Decidable b] (x y : W' → SR) : runS (if b then x else y) = if b then runS x else runS y := by split <;> rfl
@[simp] theorem v_runF (n : Nat) (b : Sm) (ds : List D) : runF n b ds = runS (b (ds.map Slot.d ++ List.replicate (n - ds.length) Slot.un)) := nr rfl
@[simp] theorem v_nerr_pure (a : α) : M.nerr (M.pure a) = M.pure a := nr rfl
@[simp] theorem v_pure_ite (b : Prop) [Decidable b] (x y : α) : (if b then M.pure x else M.pure y : M α) = M.pure (if b then x else y) := by split <;> rfl
@[simp] theorem v_bool_ite (b : Prop) [Decidable b] (x y : Bool) : (if b then PyData.bool x else PyData.bool y) = PyData.bool (if b then x else y) := by split <;> rfl
@[simp] theorem v_int_ite (b : Prop) [Decidable b] (x y : Int) : (if b then PyData.int x else PyData.int y) = PyData.int (if b then x else y) := by split <;> rfl
/-! ### statements -/
variable {i j l : Nat} {fe fj fk : X D} {ft : X Bool} {f h : Sm} {fs : X (List D)} {t : Tgt}
@[simp] theorem v_sNx : sNx ρ = S.nx ρ := nr rfl
@[simp] theorem v_sBk : sBk ρ = S.bk ρ := nr rfl
@[simp] theorem v_sCt : sCt ρ = S.ct ρ := nr rfl
@[simp] theorem v_sRetN : sRetN ρ = S.ret .none := nr rfl
@[simp] theorem v_sErr (c : Str) : sErr c ρ = S.err c ρ := nr rfl
@[simp] theorem v_sSeq : sSeq f h ρ = seqS (f ρ) h := nr rfl
@[simp] theorem v_sIf : sIf ft f h ρ = bindS (ft ρ) ρ fun b => if b then f ρ else h ρ := by
  funext w
  show Res.to _ _ _ = Res.to _ _ _
  congr 1
  funext b w
  cases b <;> rfl
@[simp] theorem v_sSet : sSet i fe ρ = bindS (fe ρ) ρ fun d => S.nx (ρ.set i (.d d)) := nr rfl
@[simp] theorem v_sRet : sRet fe ρ = bindS (fe ρ) ρ S.ret := nr rfl
@[simp] theorem v_sDrop : sDrop fe ρ = bindS (fe ρ) ρ fun _ => S.nx ρ := nr rfl
def ownS (ρ : List Slot) (i : Nat) : D → W' → SR
  | .list xs => S.nx (ρ.set i (.own xs))
  | _ => S.bad
@[simp] theorem v_ownS (xs : List D) : ownS ρ i (.list xs) = S.nx (ρ.set i (.own xs)) := nr rfl
@[simp] theorem v_sOwn : sOwn i fe ρ = bindS (fe ρ) ρ (ownS ρ i) := by
  funext w
  show Res.to _ _ _ = Res.to _ _ _
  congr 1
  funext d w
  cases d <;> rfl
@[simp] theorem v_sFor {fi : X (List D)} {b : Sm} : sFor fi t b ρ = bindS (fi ρ) ρ fun ds => forF t b ds ρ := nr rfl
theorem v_frz {xs : List D} (e : ρ[i]? = some (.own xs)) : sFrz i f ρ = f (ρ.set i (.d (.list xs))) := by
  funext w
  unfold sFrz
  rw [e]
/-! ### expressions -/
variable {fa fb fc : X D} {ga gb : X Bool} {k k' : D → D → M D} {s : Slot}
@[simp] theorem v_var0 (d : D) : xVar 0 (.d d :: ρ) = M.pure d := nr rfl
@[simp] theorem v_varS : xVar (i + 1) (s :: ρ) = xVar i ρ := nr rfl
@[simp] theorem v_peek0 (d : D) : xPeek 0 (.d d :: ρ) = M.pure d := nr rfl
@[simp] theorem v_peekO (xs : List D) : xPeek 0 (.own xs :: ρ) = M.pure (.list xs) := nr rfl
@[simp] theorem v_peekS : xPeek (i + 1) (s :: ρ) = xPeek i ρ := nr rfl
@[simp] theorem v_C (d : D) : xC d ρ = M.pure d := nr rfl
@[simp] theorem v_x1 (k : D → M D) : x1 k fa ρ = M.bind (fa ρ) k := nr rfl
@[simp] theorem v_x2 : x2 k fa fb ρ = M.bind (fa ρ) fun x => M.bind (fb ρ) fun y => k x y := nr rfl
@[simp] theorem v_x3 : x3 k k' fa fb fc ρ = M.bind (fa ρ) fun x => M.bind (fb ρ) fun y => M.bind (k x y) fun z => M.bind (asB z) fun t => if t then M.bind (fc ρ) fun u => k' y u else M.pure (.bool false) := nr rfl
@[simp] theorem v_xT : xT fa ρ = M.bind (fa ρ) asB := nr rfl
@[simp] theorem v_xAnd : xAnd ga gb ρ = M.bind (ga ρ) fun b => if b then gb ρ else M.pure false := nr rfl
@[simp] theorem v_xOr : xOr ga gb ρ = M.bind (ga ρ) fun b => if b then M.pure true else gb ρ := nr rfl
@[simp] theorem v_xNot : xNot ga ρ = M.bind (ga ρ) fun b => M.pure (!b) := nr rfl
@[simp] theorem v_xAndV : xAndV fa fb ρ = M.bind (fa ρ) fun x => M.bind (asB x) fun b => if b then fb ρ else M.pure (.bool false) := nr rfl
@[simp] theorem v_xOrV : xOrV fa fb ρ = M.bind (fa ρ) fun x => M.bind (asB x) fun b => if b then M.pure (.bool true) else fb ρ := nr rfl
@[simp] theorem v_xNotV : xNotV fa ρ = M.bind (fa ρ) fun x => M.bind (asB x) fun b => M.pure (.bool (!b)) := nr rfl
@[simp] theorem v_xIf : xIf ga fa fb ρ = M.bind (ga ρ) fun b => if b then fa ρ else fb ρ := nr rfl
@[simp] theorem v_xNil : xNil ρ = M.pure [] := nr rfl
@[simp] theorem v_xCons : xCons fa fs ρ = M.bind (fa ρ) fun x => M.bind (fs ρ) fun xs => M.pure (x :: xs) := nr rfl
@[simp] theorem v_xLst : xLst fs ρ = M.bind (fs ρ) fun ds => M.pure (.list ds) := nr rfl
@[simp] theorem v_xTup : xTup fs ρ = M.bind (fs ρ) fun ds => M.pure (.tuple ds) := nr rfl
@[simp] theorem v_xCall (k : List D → M D) : xCall k fs ρ = M.bind (fs ρ) k := nr rfl
@[simp] theorem v_xMeth (T : String) (k : D → List D → M D) : xMeth T k fa fs ρ = M.bind (fa ρ) fun o => chk (tyN o == T) (M.bind (fs ρ) fun ds => k o ds) := nr rfl
@[simp] theorem v_xIt (k : D → M (List D)) : xIt k fa ρ = M.bind (fa ρ) k := nr rfl
@[simp] theorem v_xNoPart : xNoPart ρ = M.pure none := nr rfl
@[simp] theorem v_xPart : xPart fa ρ = M.bind (fa ρ) fun d => M.bind (asI d) fun i => M.pure (some i) := nr rfl
@[simp] theorem v_xSl {lo hi : X (Option Int)} : xSl fa lo hi ρ = M.bind (fa ρ) fun x => M.bind (lo ρ) fun l => M.bind (hi ρ) fun h => kSl x l h := nr rfl
@[simp] theorem v_xLc {vs : List Nat} {fi : X (List D)} : xLc vs t fi ft fe ρ = M.bind (fi ρ) fun ds => M.nerr (compF (wipeS ρ vs) t ft fe ds []) := nr rfl
@[simp] theorem v_xYes : xYes ρ = M.pure true := nr rfl
@[simp] theorem v_asB (b : Bool) : asB (.bool b) = M.pure b := nr rfl
@[simp] theorem v_asI (b : Int) : asI (.int b) = M.pure b := nr rfl
@[simp] theorem v_asL (ds : List D) : asL (.list ds) = M.pure ds := nr rfl
@[simp] theorem v_asU (ds : List D) : asU (.tuple ds) = M.pure ds := nr rfl
@[simp] theorem v_chk (m : M α) : chk true m = m := nr rfl
@[simp] theorem v_kAdd (a b : Int) : kAdd (.int a) (.int b) = M.pure (.int (a + b)) := nr rfl
@[simp] theorem v_kSub (a b : Int) : kSub (.int a) (.int b) = M.pure (.int (a - b)) := nr rfl
@[simp] theorem v_kLt (a b : Int) : kLt (.int a) (.int b) = M.pure (.bool (decide (a < b))) := nr rfl
@[simp] theorem v_kLe (a b : Int) : kLe (.int a) (.int b) = M.pure (.bool (decide (a ≤ b))) := nr rfl
@[simp] theorem v_kGt (a b : Int) : kGt (.int a) (.int b) = M.pure (.bool (decide (b < a))) := nr rfl
@[simp] theorem v_kGe (a b : Int) : kGe (.int a) (.int b) = M.pure (.bool (decide (b ≤ a))) := nr rfl
@[simp] theorem v_kNeg (a : Int) : kNeg (.int a) = M.pure (.int (-a)) := nr rfl
@[simp] theorem v_kMax2 (a b : Int) : kMax2 [.int a, .int b] = M.pure (.int (max a b)) := by
  show M.pure (PyData.int (if b > a then b else a)) = _
  congr 2
  omega
@[simp] theorem v_kMin2 (a b : Int) : kMin2 [.int a, .int b] = M.pure (.int (min a b)) := by
  show M.pure (PyData.int (if b < a then b else a)) = _
  congr 2
  omega
@[simp] theorem v_kEqI (a b : Int) : kEq (.int a) (.int b) = M.pure (.bool (decide (a = b))) := kEq_e a b
@[simp] theorem v_kNeI (a b : Int) : kNe (.int a) (.int b) = M.pure (.bool (!decide (a = b))) := kNe_e a b
@[simp] theorem v_kEqB (a b : Bool) : kEq (.bool a) (.bool b) = M.pure (.bool (decide (a = b))) := by cases a <;> cases b <;> rfl
@[simp] theorem v_kNeB (a b : Bool) : kNe (.bool a) (.bool b) = M.pure (.bool (!decide (a = b))) := by cases a <;> cases b <;> rfl
@[simp] theorem v_isiI (T : String) (a : Int) : kIsi T (.int a) = M.pure (.bool (isi T (.int a))) := nr rfl
@[simp] theorem v_isiL (T : String) (a : List D) : kIsi T (.list a) = M.pure (.bool (isi T (.list a))) := nr rfl
@[simp] theorem v_isiT (T : String) (a : List D) : kIsi T (.tuple a) = M.pure (.bool (isi T (.tuple a))) := nr rfl
@[simp] theorem v_isiB (T : String) (a : Bool) : kIsi T (.bool a) = M.pure (.bool (isi T (.bool a))) := nr rfl
@[simp] theorem v_isi1 (a : Int) : isi "int" (.int a) = true := nr rfl
@[simp] theorem v_isi2 (a : Int) : isi "bool" (.int a) = false := nr rfl
@[simp] theorem v_isi3 (a : List D) : isi "list" (.list a) = true := nr rfl
@[simp] theorem v_isi4 (a : List D) : isi "tuple" (.tuple a) = true := nr rfl
@[simp] theorem v_isi5 (a : Bool) : isi "bool" (.bool a) = true := nr rfl
@[simp] theorem v_kLen (ds : List D) : kLen [.list ds] = M.pure (.int (ds.length : Nat)) := nr rfl
@[simp] theorem v_kLenT (ds : List D) : kLen [.tuple ds] = M.pure (.int (ds.length : Nat)) := nr rfl
@[simp] theorem v_kRev (ds : List D) : kRev (.list ds) = M.pure (.list ds.reverse) := nr rfl
@[simp] theorem v_wipe0 : wipeS ρ [] = ρ := nr rfl
@[simp] theorem v_wipe1 (v : Nat) (vs : List Nat) : wipeS ρ (v :: vs) = (wipeS ρ vs).set v .un := nr rfl
@[simp] theorem v_eI (x : Int) : Enc.e x = PyData.int x := nr rfl
@[simp] theorem v_eB (x : Bool) : Enc.e x = PyData.bool x := nr rfl
@[simp] theorem v_eP {α β : Type} [DecidableEq α] [DecidableEq β] [Enc α] [Enc β] (x : α × β) : Enc.e x = PyData.tuple [Enc.e x.1, Enc.e x.2] := nr rfl
@[simp] theorem v_eL {α : Type} [DecidableEq α] [Enc α] (x : List α) : Enc.e x = eL x := nr rfl
end
end DL

/-! The data layer, 14: typed lists by rewriting, loops. -/
namespace DL
open PySem PySem.Spec PyProof.Rows L2
section
variable {α β : Type} [DecidableEq α] [DecidableEq β] [Enc α] [Enc β] [Sh α] [Sh β]
@[simp] theorem v_lEq (a b : List α) : kEq (eL a) (eL b) = M.pure (.bool (decide (a = b))) := kEq_l a b
@[simp] theorem v_lNe (a b : List α) : kNe (eL a) (eL b) = M.pure (.bool (!decide (a = b))) := kNe_l a b
@[simp] theorem v_lLen (xs : List α) : kLen [eL xs] = M.pure (.int (xs.length : Nat)) := kLen_l xs
@[simp] theorem v_lRev (xs : List α) : kRev (eL xs) = M.pure (eL xs.reverse) := kRev_l xs
@[simp] theorem v_lAsL (xs : List α) : asL (eL xs) = M.pure (xs.map Enc.e) := nr rfl
@[simp] theorem v_lIsi (T : String) (xs : List α) : kIsi T (eL xs) = M.pure (.bool (isi T (eL xs))) := nr rfl
@[simp] theorem v_lIsi2 (xs : List α) : isi "list" (eL xs) = true := nr rfl
@[simp] theorem v_lIsi3 (xs : List α) : isi "int" (eL xs) = false := nr rfl
@[simp] theorem v_lIsi4 (xs : List α) : isi "tuple" (eL xs) = false := nr rfl
@[simp] theorem v_lTy (xs : List α) : tyN (eL xs) = "list" := nr rfl
@[simp] theorem v_lRetL (xs : List α) (ρ : List Slot) (i : Nat) : ownS ρ i (eL xs) = S.nx (ρ.set i (.own (xs.map Enc.e))) := nr rfl
@[simp] theorem v_foldL (xs : List α) : PyData.list (xs.map Enc.e) = eL xs := nr rfl
@[simp] theorem v_lNe0 (xs : List α) : kNe (eL xs) (.list []) = M.pure (.bool (!decide (xs = []))) := kNe_l xs []
@[simp] theorem v_lEq0 (xs : List α) : kEq (eL xs) (.list []) = M.pure (.bool (decide (xs = []))) := kEq_l xs []
theorem v_eq (a b : α) : kEq (Enc.e a) (Enc.e b) = M.pure (.bool (decide (a = b))) := kEq_e a b
theorem v_ne (a b : α) : kNe (Enc.e a) (Enc.e b) = M.pure (.bool (!decide (a = b))) := kNe_e a b
theorem v_in (a : α) (xs : List α) : kIn (Enc.e a) (eL xs) = M.pure (.bool (decide (a ∈ xs))) := kIn_l a xs
theorem v_notIn (a : α) (xs : List α) : kNotIn (Enc.e a) (eL xs) = M.pure (.bool (!decide (a ∈ xs))) := kNotIn_l a xs
theorem v_add {xs ys : List α} (h : xs.length + ys.length ≤ 100000) : kAdd (eL xs) (eL ys) = M.pure (eL (xs ++ ys)) := by
  show chk (szOk ((xs.map Enc.e).length + (ys.map Enc.e).length)) (M.pure (PyData.list (xs.map Enc.e ++ ys.map Enc.e))) = _
  rw [List.length_map, List.length_map, ← List.map_append]
  have : szOk (xs.length + ys.length) = true := by
    unfold szOk
    refine decide_eq_true (Nat.le_trans h ?_)
    decide
  rw [this]
  rfl
end
@[simp] theorem v_isNot (a c : Bool) : kIsNot (.bool a) (.bool c) = M.pure (.bool (!decide (a = c))) := nr rfl
@[simp] theorem v_is (a c : Bool) : kIs (.bool a) (.bool c) = M.pure (.bool (decide (a = c))) := nr rfl
theorem v_ix0 {α : Type} [DecidableEq α] [Enc α] [Sh α] (a : α) (r : List α) : kIx (eL (a :: r)) (.int 0) = M.pure (Enc.e a) := kIx_l (xs := a :: r) (i := 0) rfl
theorem v_mulL {a c : Int} (h : -1000000 < a ∧ a < 1000000) : kMul (.int a) (.int c) = M.pure (.int (a * c)) := by
  have : cMul a c = true := by
    unfold cMul
    simp only [Bool.or_eq_true, Bool.and_eq_true, decide_eq_true_eq]
    left
    constructor
    · have : -(2 : Int) ^ 64 ≤ -1000000 := by decide
      omega
    · have : (1000000 : Int) ≤ 2 ^ 64 := by decide
      omega
  show chk (cMul a c) (M.pure (PyData.int (a * c))) = _
  rw [this]
  rfl
theorem v_mulI {a c : Int} (h : -1000000 < c ∧ c < 1000000) : kMul (.int a) (.int c) = M.pure (.int (a * c)) := by
  have : cMul a c = true := by
    unfold cMul
    simp only [Bool.or_eq_true, Bool.and_eq_true, decide_eq_true_eq]
    right
    constructor
    · have : -(2 : Int) ^ 64 ≤ -1000000 := by decide
      omega
    · have : (1000000 : Int) ≤ 2 ^ 64 := by decide
      omega
  show chk (cMul a c) (M.pure (PyData.int (a * c))) = _
  rw [this]
  rfl
@[simp] theorem v_inI (a : Int) (xs : List Int) : kIn (.int a) (eL xs) = M.pure (.bool (decide (a ∈ xs))) := kIn_l a xs
@[simp] theorem v_notInI (a : Int) (xs : List Int) : kNotIn (.int a) (eL xs) = M.pure (.bool (!decide (a ∈ xs))) := kNotIn_l a xs
@[simp] theorem v_sum (ns : List Int) : kSum [eL ns] = M.pure (.int ns.sum) := kSum_l ns
theorem v_rg {n : Int} (h0 : 0 ≤ n) (h : n ≤ 1000000) : kRg (.int n) = M.pure ((rg n.toNat).map Enc.e) := by
  have := kRg_n (n := n.toNat) (by omega)
  rwa [Int.toNat_of_nonneg h0] at this
@[simp] theorem v_all (bs : List Bool) : kAll [eL bs] = M.pure (.bool (bs.all id)) := by
  have : blsOf (bs.map Enc.e) = some bs := by
    induction bs with
    | nil => rfl
    | cons b r ih => show (blsOf (r.map Enc.e)).map (b :: ·) = _; rw [ih]; rfl
  show (match blsOf (bs.map Enc.e) with | some bs => M.pure (PyData.bool (bs.all id)) | none => M.bad) = _
  rw [this]
/-- a tuple of such -/
def eT {α : Type} [DecidableEq α] [Enc α] (xs : List α) : D := .tuple (xs.map Enc.e)
@[simp] theorem v_tAsS {α : Type} [DecidableEq α] [Enc α] (xs : List α) : asS (eT xs) = M.pure (xs.map Enc.e) := nr rfl
@[simp] theorem v_lAsS {α : Type} [DecidableEq α] [Enc α] (xs : List α) : asS (eL xs) = M.pure (xs.map Enc.e) := nr rfl
@[simp] theorem v_tLen {α : Type} [DecidableEq α] [Enc α] (xs : List α) : kLen [eT xs] = M.pure (.int (xs.length : Nat)) := by
  show M.pure (PyData.int ((xs.map Enc.e).length : Nat)) = _
  rw [List.length_map]
@[simp] theorem v_tIsi {α : Type} [DecidableEq α] [Enc α] (T : String) (xs : List α) : kIsi T (eT xs) = M.pure (.bool (isi T (eT xs))) := nr rfl
@[simp] theorem v_tIsi2 {α : Type} [DecidableEq α] [Enc α] (xs : List α) : isi "tuple" (eT xs) = true := nr rfl
@[simp] theorem v_tIsi3 {α : Type} [DecidableEq α] [Enc α] (xs : List α) : isi "list" (eT xs) = false := nr rfl
theorem onSeq_t {α : Type} (ns : List Int) (f : List Int → M α) : onSeq (eT ns) f = f ns := by
  show (match intsOf (dInts ns) with | some ns => f ns | none => M.bad) = _
  rw [intsOf_dInts]
@[simp] theorem v_tSum (ns : List Int) : kSum [eT ns] = M.pure (.int ns.sum) := by
  show onSeq (eT ns) _ = _
  rw [onSeq_t]
theorem kSortI_t {ns : List Int} (h : ns.length < 64) : kSortI [eT ns] = M.pure (eL (sortI ns)) := by
  show onSeq (eT ns) _ = _
  rw [onSeq_t, decide_eq_true h]
  rfl
theorem kCount_l (ns : List Int) (i : Int) : kCount (eL ns) [.int i] = M.pure (.int (ns.count i : Nat)) := by
  show onInts (eL ns) _ = _
  rw [onInts_l]
/-- reading an item -/
theorem v_ix {α : Type} [DecidableEq α] [Enc α] [Sh α] {xs : List α} {i : Int} (h0 : 0 ≤ i) (h1 : i < xs.length) : ∃ a, xs[i.toNat]? = some a ∧ kIx (eL xs) (.int i) = M.pure (Enc.e a) := by
  have hr : i.toNat < xs.length := by omega
  refine ⟨xs[i.toNat], List.getElem?_eq_getElem hr, ?_⟩
  have := kIx_l (List.getElem?_eq_getElem hr)
  rwa [Int.toNat_of_nonneg h0] at this
/-- the item at a place, 0 beyond -/
def at0 (xs : List Int) (i : Int) : Int := xs.getD i.toNat 0
theorem v_ixI {xs : List Int} {i : Int} (h0 : 0 ≤ i) (h1 : i < xs.length) : kIx (eL xs) (.int i) = M.pure (.int (at0 xs i)) := by
  obtain ⟨a, e, k⟩ := v_ix h0 h1
  rw [k]
  show M.pure (PyData.int a) = _
  unfold at0
  rw [List.getD_eq_getElem?_getD, e]
  rfl
/-! ### loops -/
section
variable {α σ : Type} {t : Tgt} {body : Sm} {ρ1 : List Slot} {ft : X Bool} {fe : X D}
theorem v_comp (f : α → D) (p : α → Bool) (v : α → D) : ∀ (xs : List α) (acc : List D),
    (∀ x ∈ xs, ∃ ρ2, t.set (f x) ρ1 = some ρ2 ∧ ft ρ2 = M.pure (p x) ∧ (p x = true → fe ρ2 = M.pure (v x))) →
    compF ρ1 t ft fe (xs.map f) acc = M.pure (.list (acc ++ (xs.filter p).map v)) := by
  intro xs acc h
  funext w
  refine comp_pure f p v xs acc w fun x hx => ?_
  obtain ⟨ρ2, a, b, c⟩ := h x hx
  exact ⟨ρ2, a, fun w => by rw [b]; rfl, fun z w => by rw [c z]; rfl⟩
/-- a comprehension with no test -/
theorem v_map (f : α → D) (v : α → D) (xs : List α)
    (h : ∀ x ∈ xs, ∃ ρ2, t.set (f x) ρ1 = some ρ2 ∧ fe ρ2 = M.pure (v x)) :
    compF ρ1 t xYes fe (xs.map f) [] = M.pure (.list (xs.map v)) := by
  rw [v_comp f (fun _ => true) v xs [] fun x hx => ?_]
  · rw [List.nil_append, List.filter_eq_self.mpr (fun _ _ => rfl)]
  · obtain ⟨ρ2, a, b⟩ := h x hx
    exact ⟨ρ2, a, rfl, fun _ => b⟩
theorem v_filter (f : α → D) (p : α → Bool) (v : α → D) (xs : List α)
    (h : ∀ x ∈ xs, ∃ ρ2, t.set (f x) ρ1 = some ρ2 ∧ ft ρ2 = M.pure (p x) ∧ (p x = true → fe ρ2 = M.pure (v x))) :
    compF ρ1 t ft fe (xs.map f) [] = M.pure (.list ((xs.filter p).map v)) := v_comp f p v xs [] h
theorem v_for (R : σ → List Slot → Prop) (f : α → D) (step : σ → α → σ) : ∀ (xs : List α) (s : σ) (ρ : List Slot), R s ρ →
    (∀ x ∈ xs, ∀ s ρ, R s ρ → ∃ ρ1 ρ2, t.set (f x) ρ = some ρ1 ∧ (body ρ1 = S.nx ρ2 ∨ body ρ1 = S.ct ρ2) ∧ R (step s x) ρ2) →
    ∃ ρ', forF t body (xs.map f) ρ = S.nx ρ' ∧ R (xs.foldl step s) ρ'
  | [], s, ρ, r, _ => ⟨ρ, rfl, r⟩
  | x :: xs, s, ρ, r, h => by
    obtain ⟨ρ1, ρ2, e1, e2, r2⟩ := h x List.mem_cons_self s ρ r
    obtain ⟨ρ', e3, r3⟩ := v_for R f step xs (step s x) ρ2 r2 fun y hy => h y (List.mem_cons_of_mem _ hy)
    refine ⟨ρ', ?_, r3⟩
    rw [← e3]
    funext w
    rw [List.map_cons]
    show (match t.set (f x) ρ with | none => _ | some ρ1 => _) = _
    rw [e1]
    dsimp only
    rcases e2 with e2 | e2 <;> rw [e2] <;> rfl
theorem v_forE (R : σ → List Slot → Prop) (f : α → D) (step : σ → α → Except D σ) : ∀ (xs : List α) (s : σ) (ρ : List Slot), R s ρ →
    (∀ x ∈ xs, ∀ s ρ, R s ρ → ∃ ρ1, t.set (f x) ρ = some ρ1 ∧ match step s x with
      | .ok s' => ∃ ρ2, (body ρ1 = S.nx ρ2 ∨ body ρ1 = S.ct ρ2) ∧ R s' ρ2
      | .error d => body ρ1 = S.ret d) →
    match xs.foldlM step s with
      | .ok s' => ∃ ρ', forF t body (xs.map f) ρ = S.nx ρ' ∧ R s' ρ'
      | .error d => forF t body (xs.map f) ρ = S.ret d
  | [], s, ρ, r, _ => ⟨ρ, rfl, r⟩
  | x :: xs, s, ρ, r, h => by
    obtain ⟨ρ1, e1, e2⟩ := h x List.mem_cons_self s ρ r
    rw [List.foldlM_cons]
    have key : forF t body ((x :: xs).map f) ρ = fun w => match body ρ1 w with
      | .nx ρ2 w2 => forF t body (xs.map f) ρ2 w2
      | .ct ρ2 w2 => forF t body (xs.map f) ρ2 w2
      | .bk ρ2 w2 => .nx ρ2 w2
      | .ret d w2 => .ret d w2
      | .err c ρ2 w2 => .err c ρ2 w2
      | .bad => .bad := by
      funext w
      rw [List.map_cons]
      show (match t.set (f x) ρ with | none => _ | some ρ1 => _) = _
      rw [e1]
      try rfl
    cases hs : step s x with
    | error d =>
      rw [hs] at e2
      dsimp only at e2
      show forF t body ((x :: xs).map f) ρ = S.ret d
      rw [key, e2]
      rfl
    | ok s' =>
      rw [hs] at e2
      obtain ⟨ρ2, e2, r2⟩ := e2
      have ih := v_forE R f step xs s' ρ2 r2 fun y hy => h y (List.mem_cons_of_mem _ hy)
      have k2 : forF t body ((x :: xs).map f) ρ = forF t body (xs.map f) ρ2 := by
        rw [key]
        funext w
        rcases e2 with e2 | e2 <;> rw [e2] <;> rfl
      rw [k2]
      exact ih
/-- a loop that only looks, and leaves with an answer at the first that fails -/
theorem v_forAll {ρ : List Slot} (R : List Slot → Prop) (f : α → D) (p : α → Bool) (d : D) (xs : List α) (r : R ρ)
    (h : ∀ x ∈ xs, ∀ ρ, R ρ → ∃ ρ1 ρ2, t.set (f x) ρ = some ρ1 ∧ (body ρ1 = if p x then S.nx ρ2 else S.ret d) ∧ R ρ2) :
    ∃ ρ', (forF t body (xs.map f) ρ = if xs.all p then S.nx ρ' else S.ret d) ∧ R ρ' := by
  have := v_forE (t := t) (body := body) (σ := Unit) (fun _ ρ => R ρ) f (fun _ x => if p x then .ok () else .error d) xs () ρ r (fun x hx s ρ r => by
    obtain ⟨ρ1, ρ2, a, b, c⟩ := h x hx ρ r
    refine ⟨ρ1, a, ?_⟩
    cases hp : p x with
    | true => rw [hp] at b; exact ⟨ρ2, Or.inl b, c⟩
    | false => rw [hp] at b; exact b)
  have k : ∀ xs : List α, (xs.foldlM (fun (_ : Unit) x => if p x then Except.ok () else Except.error d) ()) = if xs.all p then Except.ok () else Except.error d := by
    intro xs
    induction xs with
    | nil => rfl
    | cons x xs ih =>
      rw [List.foldlM_cons, List.all_cons]
      cases p x with
      | true => exact ih
      | false => rfl
  rw [k] at this
  cases ha : xs.all p with
  | true =>
    rw [ha] at this
    obtain ⟨ρ', a, b⟩ := this
    exact ⟨ρ', a, b⟩
  | false =>
    rw [ha] at this
    exact ⟨ρ, this, r⟩
end
theorem for_nil {t : Tgt} {body : Sm} {ρ : List Slot} : forF t body [] ρ = S.nx ρ := rfl
theorem for_cons {t : Tgt} {body : Sm} {d : D} {r : List D} {ρ ρ1 ρ2 : List Slot} (e1 : t.set d ρ = some ρ1) (e2 : body ρ1 = S.nx ρ2) : forF t body (d :: r) ρ = forF t body r ρ2 := by
  funext w
  show (match t.set d ρ with | none => _ | some ρ1 => _) = _
  rw [e1]
  dsimp only
  rw [e2]
  rfl
theorem for_ret {t : Tgt} {body : Sm} {d x : D} {r : List D} {ρ ρ1 : List Slot} (e1 : t.set d ρ = some ρ1) (e2 : body ρ1 = S.ret x) : forF t body (d :: r) ρ = S.ret x := by
  funext w
  show (match t.set d ρ with | none => _ | some ρ1 => _) = _
  rw [e1]
  dsimp only
  rw [e2]
  rfl
theorem for_err {t : Tgt} {body : Sm} {d : D} {c : Str} {r : List D} {ρ ρ1 ρ2 : List Slot} (e1 : t.set d ρ = some ρ1) (e2 : body ρ1 = S.err c ρ2) : forF t body (d :: r) ρ = S.err c ρ2 := by
  funext w
  show (match t.set d ρ with | none => _ | some ρ1 => _) = _
  rw [e1]
  dsimp only
  rw [e2]
  rfl
theorem v_app {ρ : List Slot} {i : Nat} {xs : List D} {fe : X D} (e : ρ[i]? = some (.own xs)) (h : xs.length < 100000) : sApp i fe ρ = bindS (fe ρ) ρ fun d => S.nx (ρ.set i (.own (xs ++ [d]))) := by
  have hs : xs.length < sizeLine := Nat.lt_of_lt_of_le h (by decide)
  funext w
  unfold sApp
  rw [e]
  show Res.to _ _ _ = Res.to _ _ _
  congr 1
  funext d w
  rw [if_pos (decide_eq_true hs)]
  rfl
def extS (ρ : List Slot) (i : Nat) (xs : List D) : D → W' → SR
  | .list ys => if xs.length + ys.length ≤ 100000 then S.nx (ρ.set i (.own (xs ++ ys))) else S.bad
  | _ => S.bad
theorem v_ext {ρ : List Slot} {i : Nat} {xs ys : List D} {fe : X D} (e : ρ[i]? = some (.own xs)) (hf : fe ρ = M.pure (.list ys)) (h : xs.length + ys.length ≤ 100000) : sExt i fe ρ = S.nx (ρ.set i (.own (xs ++ ys))) := by
  have hs : szOk (xs.length + ys.length) = true := decide_eq_true (Nat.le_trans h (by decide))
  funext w
  unfold sExt
  rw [e, hf]
  show (if szOk (xs.length + ys.length) then _ else _) = _
  rw [hs]
  rfl
end DL

/-! The data layer, 15: sum and sorted of a tuple. -/
namespace DL
open PySem PySem.Spec PyProof.Rows L2
section
variable {prog : Program} {w : World} {A : Around} {E : Value → Shared → Prop} {s : Shared}
theorem collectT {t : Addr} {zs : List Value} {R : List Value → Shared → Prop} (kt : s.heap.IsTuple t zs.toArray)
    (out : R zs { s with heap := (s.heap.push (seqObj "list" #[] 0)).update s.heap.objs.size (Obj.mapSeq (· ++ zs.toArray)) }) (kz : zs.length ≤ sizeLine) : wpAny (model prog w) A (collect (.ref t)) R E s := by
  have kt' := kt
  obtain ⟨x, k1, k2, n, k3⟩ := kt'
  have k4 := Heap.get?_push_of_some (seqObj "list" #[] 0) k1
  have k6 : (Value.type "tuple" == Value.type "tuple") = true := by rfl
  unfold collect; refine wpAny_bind (wpAny_runValue (codeAny_builtin entry_proto_collect' (wpAny_bind (wpAny_newList (wpAny_pure ⟨Code.quiet_builtin _ (by decide +kernel), codeAny_builtin entry_list_iadd' ?_⟩)))))
  show wpAny _ _ (Builtin.List.listExtendWith (.ref s.heap.objs.size) (.ref t) (.ref s.heap.objs.size)) _ _ { s with heap := s.heap.push (seqObj "list" #[] 0) }
  unfold Builtin.List.listExtendWith; refine wpAny_bind (wpAny_typeOf (T := "tuple") ⟨x, k4, k2⟩ ?_)
  rw [if_pos (by rw [k6]; simp)]; refine wpAny_bind (listItems_at k4 k3 (wpAny_bind (listItems_at (xs := #[]) (n := 0) (Heap.get?_push_size _ rfl) rfl ?_)))
  rw [if_neg (by simp)]; refine wpAny_bind (listUpdate_at (xs := #[]) (n := 0) (Heap.get?_push_size _ rfl) rfl (wpAny_pure (wpAny_bind (wpAny_load (get?_update_seq (Heap.get?_push_size _ rfl) _) ?_))) (Nat.zero_le _) (by
    show (#[] ++ zs.toArray).size ≤ sizeLine + 1
    simp only [Array.size_append, List.size_toArray, List.length_nil]
    omega))
  have k7 : ((#[] : Array Value) ++ zs.toArray).toList = zs := by simp
  show wpAny _ _ (pure ((#[] : Array Value) ++ zs.toArray).toList) R E _
  rw [k7]; exact wpAny_pure out
theorem sortedT {t : Addr} {zs : List Value} {is : List Int} {R : Value → Shared → Prop} (kt : s.heap.IsTuple t zs.toArray) (ki : IntsAre zs is) (k64 : zs.length < 64)
    (fin : ∀ (o : Array Value) (is' : List Int), IntsAre o.toList is' → is'.Perm is → is'.Pairwise (· ≤ ·) → R (.ref (s.heap.objs.size + 1)) { s with heap := sortedAll s.heap zs o }) : wpAny (model prog w) A (call (.builtin "sorted") [.ref t]) R E s := by
  refine Calls.call_function_entry kind_sorted plain_sorted entry_sorted (args_sorted1 _) (wpAny_bind (m := checkCount "sorted" 1 1 _) (wpAny_pure (wpAny_bind (collectT kt (wpAny_bind (wpAny_newList ?_)) (small64 k64)))))
  have k1 : ((s.heap.push (seqObj "list" #[] 0)).update s.heap.objs.size (Obj.mapSeq (· ++ zs.toArray))).objs.size = s.heap.objs.size + 1 := by rw [Heap.size_update, size_push']
  have k2 : (((s.heap.push (seqObj "list" #[] 0)).update s.heap.objs.size (Obj.mapSeq (· ++ zs.toArray))).push (seqObj "list" zs.toArray 0)).get? (s.heap.objs.size + 1) = some (seqObj "list" zs.toArray 0) := k1 ▸ Heap.get?_push_size _ rfl
  show wpAny _ _ _ _ _ { s with heap := ((s.heap.push (seqObj "list" #[] 0)).update s.heap.objs.size (Obj.mapSeq (· ++ zs.toArray))).push (seqObj "list" zs.toArray 0) }
  rw [k1]; exact wpAny_bind (wpAny_holding (wpAny_call_entry slot_list_sort ⟨_, k2, rfl⟩ entry_list_sort (list_sort_tree k2 ki k64 fun o is' a1 a2 a3 => ⟨_, rfl, wpAny_pure ⟨_, rfl, fin o is' a1 a2 a3⟩⟩) (args_list_sort _)))
end
section
variable {X : Cx}
theorem cr_sumA (hc : X.calm = true) : CallR X (.builtin "sum") (rSumA X.K) := by
  intro pins s σ H vs us Q I rr hh
  obtain ⟨a, ns, e, hs, q⟩ := hh
  rcases hs with hs | hs
  · exact cr_sum hc pins s σ H vs us Q I rr ⟨a, ns, e, hs, q⟩
  · subst e
    obtain ⟨its, rv, hl, _⟩ := I.tuple hs
    rw [Vals.ref1 rr]
    have hi := rv.ints
    obtain ⟨xs, ex⟩ := hi.allInts.items
    have hn : numsOf (intItems xs).toList = ns := by rw [← ex, hi.numsOf]
    rw [nums_intItems] at hn
    rw [ex] at hl
    refine PySem.W.ktm_sumG (I.ok.hd hc) hl fun h' tk t' hk => ?_
    refine ⟨.int ns.sum, H, I.kept hk, ?_, q⟩
    have hz : preSum (numAt xs) xs.size = ns.sum := by rw [preSum_eq, hn, List.take_of_length_le (by rw [← hn]; simp)]
    exact ⟨_, by rw [hz]⟩
theorem cr_sortA : CallR X (.builtin "sorted") (rSortA X.K) := by
  intro pins s σ H vs us Q I rr hh
  obtain ⟨a, ns, e, hs, h64, q⟩ := hh
  rcases hs with hs | hs
  · exact cr_sorted pins s σ H vs us Q I rr ⟨a, ns, e, hs, h64, q⟩
  · subst e
    obtain ⟨its, rv, hl, _⟩ := I.tuple hs
    rw [Vals.ref1 rr]
    have hi := rv.ints
    refine sortedT hl hi (by rw [hi.length]; exact h64) fun out ns' h1 h2 h3 => ?_
    obtain ⟨ep, hep⟩ := PyProof.Rows.sortedAll_at s.heap its out
    have hlen : (ns'.map V.int).length ≤ sizeLine := by
      rw [List.length_map, h2.length_eq]
      exact small64 h64
    exact ⟨.ref _, upd H (s.heap.objs.size + 1) (.lst (ns'.map V.int)), I.laid (t' := s.toks) (fun _ _ => PyProof.Rows.sortedAll_old) (Nat.le_succ _) ⟨hlen, out.toList, ep, vals_of_ints h1, hep⟩, rfl, q ns' _ h2 h3 (I.hok.fresh (Nat.le_succ _))⟩
end
end DL

/-! The data layer, 16: loops that add to a list. -/
namespace DL
open PySem PySem.Spec PyProof.Rows L2
theorem v_forApp {α β : Type} {t : Tgt} {body : Sm} (R : List β → List Slot → Prop) (f : α → D) (g : α → List β) : ∀ (xs : List α) (acc : List β) (ρ : List Slot), R acc ρ → (acc ++ xs.flatMap g).length ≤ 90000 →
    (∀ x ∈ xs, ∀ acc ρ, R acc ρ → (acc ++ g x).length ≤ 90000 → ∃ ρ1 ρ2, t.set (f x) ρ = some ρ1 ∧ (body ρ1 = S.nx ρ2 ∨ body ρ1 = S.ct ρ2) ∧ R (acc ++ g x) ρ2) →
    ∃ ρ', forF t body (xs.map f) ρ = S.nx ρ' ∧ R (acc ++ xs.flatMap g) ρ'
  | [], acc, ρ, r, _, _ => ⟨ρ, rfl, by rw [List.flatMap_nil, List.append_nil]; exact r⟩
  | x :: xs, acc, ρ, r, hl, h => by
    rw [List.flatMap_cons, ← List.append_assoc] at hl
    have hl' : (acc ++ g x).length ≤ 90000 := by
      rw [List.length_append] at hl
      omega
    obtain ⟨ρ1, ρ2, e1, e2, r2⟩ := h x List.mem_cons_self acc ρ r hl'
    obtain ⟨ρ', e3, r3⟩ := v_forApp R f g xs (acc ++ g x) ρ2 r2 hl fun y hy => h y (List.mem_cons_of_mem _ hy)
    refine ⟨ρ', ?_, by rw [List.flatMap_cons, ← List.append_assoc]; exact r3⟩
    rw [← e3]
    funext w
    rw [List.map_cons]
    show (match t.set (f x) ρ with | none => _ | some ρ1 => _) = _
    rw [e1]
    dsimp only
    rcases e2 with e2 | e2 <;> rw [e2] <;> rfl
theorem flatMap_filter {α : Type} (p : α → Bool) : ∀ xs : List α, (xs.flatMap fun x => if p x then [x] else []) = xs.filter p
  | [] => rfl
  | x :: r => by
    rw [List.flatMap_cons, flatMap_filter p r, List.filter_cons]
    cases p x <;> rfl
theorem flatMap_map {α β : Type} (v : α → β) : ∀ xs : List α, (xs.flatMap fun x => [v x]) = xs.map v
  | [] => rfl
  | x :: r => by rw [List.flatMap_cons, flatMap_map v r]; rfl
/-- reading from the end -/
theorem v_ixNeg {xs : List Int} {i : Int} (h0 : i < 0) (h1 : -(xs.length : Int) ≤ i) : kIx (eL xs) (.int i) = M.pure (.int (at0 xs (xs.length + i))) := by
  have hj : (i + (xs.length : Int)).toNat < xs.length := by omega
  have h2 : atI (xs.map Enc.e) i = some (Enc.e xs[(i + (xs.length : Int)).toNat]) := by
    unfold atI ixN
    rw [if_neg (by omega), if_pos (by rw [List.length_map]; exact h1), Option.bind_some, List.length_map, List.getElem?_map, List.getElem?_eq_getElem hj]
    rfl
  show (match atI (xs.map Enc.e) i with | some d => M.pure d | none => M.bad) = _
  rw [h2]
  show M.pure (PyData.int _) = _
  unfold at0
  rw [show (xs.length : Int) + i = i + xs.length by omega, List.getD_eq_getElem?_getD, List.getElem?_eq_getElem hj]
  rfl
theorem v_div {a c : Int} (h : 0 < c ∧ c < 1000000) : kDiv (.int a) (.int c) = M.pure (.int (a / c)) := by
  have : cDiv a c = true := by
    unfold cDiv
    simp only [Bool.and_eq_true, decide_eq_true_eq]
    omega
  show chk (cDiv a c) (M.pure (PyData.int (a / c))) = _
  rw [this]
  rfl
theorem v_mod {a c : Int} (h : 0 < c) : kMod (.int a) (.int c) = M.pure (.int (a % c)) := by
  have : cMod a c = true := decide_eq_true h
  show chk (cMod a c) (M.pure (PyData.int (a % c))) = _
  rw [this]
  rfl
def cutT {α : Type} (xs : List α) (lo hi : Option Int) : List α := (xs.drop (HT.sIx xs.length 0 lo)).take (HT.sIx xs.length xs.length hi - HT.sIx xs.length 0 lo)
theorem v_sl {α : Type} [DecidableEq α] [Enc α] (xs : List α) (lo hi : Option Int) : kSl (eL xs) lo hi = M.pure (eL (cutT xs lo hi)) := by
  show M.pure (PyData.list (cutD (xs.map Enc.e) lo hi)) = _
  unfold cutD cutT eL
  rw [List.length_map, List.map_take, List.map_drop]
theorem v_slT {α : Type} [DecidableEq α] [Enc α] (xs : List α) (lo hi : Option Int) : kSl (eT xs) lo hi = M.pure (eT (cutT xs lo hi)) := by
  show M.pure (PyData.tuple (cutD (xs.map Enc.e) lo hi)) = _
  unfold cutD cutT eT
  rw [List.length_map, List.map_take, List.map_drop]
theorem cut_from {α : Type} (xs : List α) {i : Int} (h0 : 0 ≤ i) (h : i ≤ xs.length) : cutT xs (some i) none = xs.drop i.toNat := by
  unfold cutT
  have e : HT.sIx xs.length 0 (some i) = i.toNat := by
    show (if i < 0 then (i + (xs.length : Int)).toNat else min i.toNat xs.length) = i.toNat
    rw [if_neg (by omega)]
    omega
  rw [e]
  show (xs.drop i.toNat).take (xs.length - i.toNat) = _
  rw [List.take_of_length_le (by rw [List.length_drop]; omega)]
theorem cut_to {α : Type} (xs : List α) {i : Int} (h0 : 0 ≤ i) (h : i ≤ xs.length) : cutT xs none (some i) = xs.take i.toNat := by
  unfold cutT
  have e : HT.sIx xs.length xs.length (some i) = i.toNat := by
    show (if i < 0 then (i + (xs.length : Int)).toNat else min i.toNat xs.length) = i.toNat
    rw [if_neg (by omega)]
    omega
  rw [e]
  rfl
section
variable {α : Type} [DecidableEq α] [Enc α] [Sh α] {a : α} {xs : List α}
theorem v_inY (h : a ∈ xs) : kIn (Enc.e a) (eL xs) = M.pure (.bool true) := by rw [kIn_l, decide_eq_true h]
theorem v_inN (h : a ∉ xs) : kIn (Enc.e a) (eL xs) = M.pure (.bool false) := by rw [kIn_l, decide_eq_false h]
theorem v_notInY (h : a ∈ xs) : kNotIn (Enc.e a) (eL xs) = M.pure (.bool false) := by rw [kNotIn_l, decide_eq_true h]; rfl
theorem v_notInN (h : a ∉ xs) : kNotIn (Enc.e a) (eL xs) = M.pure (.bool true) := by rw [kNotIn_l, decide_eq_false h]; rfl
end
theorem perm_sum {a b : List Int} (h : a.Perm b) : a.sum = b.sum := by
  induction h with
  | nil => rfl
  | cons x _ ih => rw [List.sum_cons, List.sum_cons, ih]
  | swap x y l => simp only [List.sum_cons]; omega
  | trans _ _ h1 h2 => rw [h1, h2]
end DL

/-! list(zip(a, b)) of two lists: the machine's steps, the rule, the mirror. -/
namespace DL
open PySem PySem.Spec PyProof.Rows L2
section
variable {prog : Program} {w : World} {A : Around} {E : Value → Shared → Prop} {s : Shared}
theorem wpAny_alive {M : Model} {a : Addr} {Q : Option Obj → Shared → Prop} (h : Q (s.heap.get? a) s) : wpAny M A (loadIfAlive a) Q E s := fun Γ p _ => by
  unfold loadIfAlive
  rw [Sem.wp_loadIfAlive]
  exact h
abbrev IsZ (h : Heap) (z TI TO : Addr) (f0 f1 : Value) : Prop :=
  h.get? z = some { cls := .type "zip", dict := none, data := .fields #[f0, f1, .bool false, .ref TI, .ref TO], slots := #[] }
def OwnF (f0 : Value) : Prop := f0 = .none ∨ ∃ T : Addr, f0 = rawInt T
theorem zl_free {z TI TO : Addr} {f0 f1 : Value} {Q : Bool → Shared → Prop} (o : OwnF f0) (hz : IsZ s.heap z TI TO f0 f1)
    (h : ∀ b h' f1', IsZ h' z TI TO f0 f1' → Heap.SameBut z s.heap h' → Q b { s with heap := h' }) : wpAny (model prog w) A (Builtin.SmallTypes.ownedTupleIsFree (.ref z)) Q E s := by
  unfold Builtin.SmallTypes.ownedTupleIsFree
  have here : ∀ b, Q b s := fun b => h b s.heap f1 hz (Heap.SameBut.refl _ _)
  rcases o with rfl | ⟨T, rfl⟩
  · exact wpAny_bind (wpAny_field hz rfl (x := .none) rfl (wpAny_pure (here true)))
  · refine wpAny_bind (wpAny_field hz rfl (x := rawInt T) rfl ?_)
    show wpAny _ _ (loadIfAlive _ >>= _) _ _ _
    refine wpAny_bind (wpAny_alive ?_)
    cases s.heap.get? (Int.toNat (T : Int)) with
    | none => exact wpAny_pure (here true)
    | some ob =>
      show wpAny _ _ (field (.ref z) 1 >>= _) _ _ _
      refine wpAny_bind (wpAny_field hz rfl (x := f1) rfl ?_)
      refine wpAny_ite_split (fun _ => ?_) (fun _ => wpAny_pure (here false))
      refine wpAny_bind (wpAny_setField_rec hz (by simp) fun h' hz' hs' => ?_)
      exact wpAny_pure (h false h' _ hz' hs')
structure ZS (z TI TO i1 i2 l1 l2 : Addr) (xs ys : Array Value) (k : Nat) (h : Heap) : Prop where
  hz : ∃ f0 f1, OwnF f0 ∧ IsZ h z TI TO f0 f1
  hTI : IsPair h TI (.ref i1) (.ref i2)
  hTO : ∃ a b, IsPair h TO a b
  h1 : h.IsListIter i1 l1 k
  h2 : h.IsListIter i2 l2 k
  hl1 : h.IsList l1 xs
  hl2 : h.IsList l2 ys
theorem zl_item {z TI TO i1 i2 l1 l2 : Addr} {k : Nat} {xs ys : Array Value} {x y : Value} {Q : Value → Shared → Prop} (D : ZipApart z TI TO i1 i2 l1 l2) (S : ZS z TI TO i1 i2 l1 l2 xs ys k s.heap)
    (hx : xs[k]? = some x) (hy : ys[k]? = some y)
    (hQ : ∀ h', ZS z TI TO i1 i2 l1 l2 xs ys (k + 1) h' → IsPair h' s.heap.objs.size x y → h'.objs.size = s.heap.objs.size + 1 →
      (∀ c o, c ≠ z → c ≠ TO → c ≠ i1 → c ≠ i2 → s.heap.get? c = some o → h'.get? c = some o) → Q (.ref s.heap.objs.size) { s with heap := h' }) :
    wpAny (model prog w) A (Builtin.«zip.__next__» ⟨[.ref z], []⟩) (fun fin s' => ∃ v, fin = .done (.ret v) ∧ Q v s') E s := by
  obtain ⟨⟨f0, f1, ow, hz⟩, hTI, ⟨a, b, hTO⟩, h1, h2, hl1, hl2⟩ := S
  show wpAny _ _ (field (.ref z) 2 >>= _) _ _ _
  refine wpAny_bind (wpAny_field hz rfl (x := .bool false) rfl ?_)
  show wpAny _ _ (field (.ref z) 3 >>= _) _ _ _
  refine wpAny_bind (wpAny_field hz rfl (x := .ref TI) rfl ?_)
  refine wpAny_bind (wpAny_seqItems hTI rfl ?_)
  show wpAny _ _ (Builtin.SmallTypes.ownedTupleIsFree (.ref z) >>= _) _ _ _
  refine wpAny_bind (zl_free ow hz fun fr h₀ f1' hz₀ hs₀ => ?_)
  have hTI₀ : IsPair h₀ TI (.ref i1) (.ref i2) := hs₀.extBut _ _ D.TIz hTI
  have hTO₀ : IsPair h₀ TO a b := hs₀.extBut _ _ D.TOz hTO
  have h1₀ := h1.extBut hs₀.extBut D.i1z
  have h2₀ := h2.extBut hs₀.extBut D.i2z
  have hl1₀ := hl1.extBut hs₀.extBut D.l1z
  have hl2₀ := hl2.extBut hs₀.extBut D.l2z
  have hsz₀ : h₀.objs.size = s.heap.objs.size := hs₀.1
  cases fr with
  | false =>
    refine wpAny_ite_split (fun q => by cases q) (fun _ => ?_)
    simp only [List.forIn_toArray, List.forIn_cons, List.forIn_nil]
    refine wpAny_bind (wpAny_bind (wpAny_bind (wpAny_holding ?_)))
    show wpAny _ _ (Builtin.SmallTypes.nextOf (.ref i1) >>= _) _ _ _
    refine wpAny_bind (wpAny_nextOf_list_item h1₀ hl1₀ hx fun h₂ h1₂ hs₂ => wpAny_pure (wpAny_pure ?_))
    refine wpAny_bind (wpAny_bind (wpAny_holding ?_))
    show wpAny _ _ (Builtin.SmallTypes.nextOf (.ref i2) >>= _) _ _ _
    refine wpAny_bind (wpAny_nextOf_list_item (h2₀.extBut hs₂.extBut D.i12.symm) (hl2₀.extBut hs₂.extBut D.l2i1) hy fun h₄ h2₄ hs₄ => wpAny_pure (wpAny_pure (wpAny_pure ?_)))
    refine wpAny_bind (wpAny_newTuple ?_ (by show 2 ≤ sizeLine; decide))
    have hsz₄ : h₄.objs.size = s.heap.objs.size := by rw [hs₄.1, hs₂.1, hsz₀]
    have hk₄ : ∀ c o, c ≠ z → c ≠ i1 → c ≠ i2 → s.heap.get? c = some o → h₄.get? c = some o := fun c o c1 c3 c4 e => hs₄.extBut _ _ c4 (hs₂.extBut _ _ c3 (hs₀.extBut _ _ c1 e))
    have up : ∀ c o, h₄.get? c = some o → (h₄.push { cls := .type "tuple", data := .seq #[x, y] }).get? c = some o := fun c o e => Heap.get?_push_of_some _ e
    have hz₄ : IsZ h₄ z TI TO f0 f1' := hs₄.extBut _ _ D.i2z.symm (hs₂.extBut _ _ D.i1z.symm hz₀)
    refine wpAny_pure ⟨_, rfl, ?_⟩
    show Q (.ref h₄.objs.size) _
    rw [hsz₄]
    refine hQ _ ⟨⟨f0, f1', ow, up _ _ hz₄⟩, up _ _ (hk₄ _ _ D.TIz D.TIi1 D.TIi2 hTI), ⟨a, b, up _ _ (hk₄ _ _ D.TOz D.TOi1 D.TOi2 hTO)⟩, (h1₂.extBut hs₄.extBut D.i12).at fun o e => up _ o e, h2₄.at fun o e => up _ o e,
      hl1.at fun o e => up _ o (hk₄ _ o D.l1z D.l1i1 D.l1i2 e), hl2.at fun o e => up _ o (hk₄ _ o D.l2z D.l2i1 D.l2i2 e)⟩ ?_ ?_ fun c o c1 c2 c3 c4 e => up c o (hk₄ c o c1 c3 c4 e)
    · show (h₄.push _).get? s.heap.objs.size = _
      rw [← hsz₄]
      exact Heap.get?_push_size _ rfl
    · rw [Heap.size_push, hsz₄]
  | true =>
    refine wpAny_ite_split (fun _ => ?_) (fun q => absurd rfl q)
    refine wpAny_bind (wpAny_rule ?_)
    refine wpAny_bind (wpAny_field hz₀ rfl (x := .ref TO) rfl ?_)
    refine wpAny_bind (wpAny_setField_rec hz₀ (by simp) fun h₁ hz₁ hs₁ => ?_)
    replace hz₁ : IsZ h₁ z TI TO .ellipsis f1' := hz₁
    refine wpAny_bind ?_
    simp only [List.zipIdx_cons, List.zipIdx_nil, List.forIn_cons, List.forIn_nil]
    refine wpAny_bind (wpAny_bind (wpAny_onRaise ?_))
    show wpAny _ _ (Builtin.SmallTypes.nextOf (.ref i1) >>= _) _ _ _
    refine wpAny_bind (wpAny_nextOf_list_item (h1₀.extBut hs₁.extBut D.i1z) (hl1₀.extBut hs₁.extBut D.l1z) hx fun h₂ h1₂ hs₂ => wpAny_pure ?_)
    have hTO₂ : IsPair h₂ TO a b := hs₂.extBut _ _ D.TOi1 (hs₁.extBut _ _ D.TOz hTO₀)
    refine wpAny_bind (wpAny_seqItems hTO₂ rfl ?_)
    refine wpAny_bind (wpAny_updateSeq_pair hTO₂ fun h₃ hTO₃ hs₃ => ?_)
    replace hTO₃ : IsPair h₃ TO x b := hTO₃
    refine wpAny_bind (wpAny_letGo (wpAny_pure ?_))
    refine wpAny_bind (wpAny_bind (wpAny_onRaise ?_))
    show wpAny _ _ (Builtin.SmallTypes.nextOf (.ref i2) >>= _) _ _ _
    refine wpAny_bind (wpAny_nextOf_list_item (((h2₀.extBut hs₁.extBut D.i2z).extBut hs₂.extBut D.i12.symm).extBut hs₃.extBut D.TOi2.symm)
      (((hl2₀.extBut hs₁.extBut D.l2z).extBut hs₂.extBut D.l2i1).extBut hs₃.extBut D.l2TO) hy fun h₄ h2₄ hs₄ => wpAny_pure ?_)
    have hTO₄ : IsPair h₄ TO x b := hs₄.extBut _ _ D.TOi2 hTO₃
    refine wpAny_bind (wpAny_seqItems hTO₄ rfl ?_)
    refine wpAny_bind (wpAny_updateSeq_pair hTO₄ fun h₅ hTO₅ hs₅ => ?_)
    replace hTO₅ : IsPair h₅ TO x y := hTO₅
    refine wpAny_bind (wpAny_letGo (wpAny_pure (wpAny_pure ?_)))
    refine wpAny_bind (wpAny_seqItems hTO₅ rfl ?_)
    refine wpAny_bind (wpAny_newTuple ?_)
    have hsz : h₅.objs.size = s.heap.objs.size := by rw [hs₅.1, hs₄.1, hs₃.1, hs₂.1, hs₁.1, hsz₀]
    have hz₅ : IsZ h₅ z TI TO .ellipsis f1' := hs₅.extBut _ _ D.TOz.symm (hs₄.extBut _ _ D.i2z.symm (hs₃.extBut _ _ D.TOz.symm (hs₂.extBut _ _ D.i1z.symm hz₁)))
    have hk₅ : ∀ c o, c ≠ z → c ≠ TO → c ≠ i1 → c ≠ i2 → s.heap.get? c = some o → h₅.get? c = some o := fun c o c1 c2 c3 c4 e =>
      hs₅.extBut _ _ c2 (hs₄.extBut _ _ c4 (hs₃.extBut _ _ c2 (hs₂.extBut _ _ c3 (hs₁.extBut _ _ c1 (hs₀.extBut _ _ c1 e)))))
    have h1₅ : h₅.IsListIter i1 l1 (k + 1) := ((h1₂.extBut hs₃.extBut D.TOi1.symm).extBut hs₄.extBut D.i12).extBut hs₅.extBut D.TOi1.symm
    have h2₅ : h₅.IsListIter i2 l2 (k + 1) := h2₄.extBut hs₅.extBut D.TOi2.symm
    have hzlt : z < h₅.objs.size := Heap.lt_size hz₅
    show wpAny _ _ (Builtin.SmallTypes.ownedTupleHandOut (.ref z) (.ref h₅.objs.size) >>= _) _ _ _
    refine wpAny_bind ?_
    unfold Builtin.SmallTypes.ownedTupleHandOut
    have hz₆ : IsZ (h₅.push { cls := .type "tuple", data := .seq #[x, y] }) z TI TO .ellipsis f1' := Heap.get?_push_of_some _ hz₅
    refine wpAny_bind (wpAny_setField_rec hz₆ (by simp) fun h₇ hz₇ hs₇ => ?_)
    replace hz₇ : IsZ h₇ z TI TO (rawInt h₅.objs.size) f1' := hz₇
    refine wpAny_setField_rec hz₇ (by simp) fun h₈ hz₈ hs₈ => ?_
    replace hz₈ : IsZ h₈ z TI TO (rawInt h₅.objs.size) (.bool false) := hz₈
    have up : ∀ c o, c ≠ z → h₅.get? c = some o → h₈.get? c = some o := fun c o c1 e => hs₈.extBut _ _ c1 (hs₇.extBut _ _ c1 (Heap.get?_push_of_some _ e))
    have hT₈ : IsPair h₈ h₅.objs.size x y := hs₈.extBut _ _ (Nat.ne_of_gt hzlt) (hs₇.extBut _ _ (Nat.ne_of_gt hzlt) (Heap.get?_push_size _ rfl))
    have hz8 : h₈.objs.size = h₅.objs.size + 1 := by rw [hs₈.1, hs₇.1, Heap.size_push]
    rw [hsz] at hz₈ hT₈ hz8
    refine wpAny_pure ⟨_, rfl, ?_⟩
    show Q (.ref h₅.objs.size) _
    rw [hsz]
    exact hQ h₈ ⟨⟨_, _, .inr ⟨_, rfl⟩, hz₈⟩, up _ _ D.TIz (hk₅ _ _ D.TIz D.TITO D.TIi1 D.TIi2 hTI), ⟨_, _, up _ _ D.TOz hTO₅⟩, h1₅.at fun o e => up _ o D.i1z e, h2₅.at fun o e => up _ o D.i2z e,
      hl1.at fun o e => up _ o D.l1z (hk₅ _ o D.l1z D.l1TO D.l1i1 D.l1i2 e), hl2.at fun o e => up _ o D.l2z (hk₅ _ o D.l2z D.l2TO D.l2i1 D.l2i2 e)⟩ hT₈ hz8 fun c o c1 c2 c3 c4 e => up c o c1 (hk₅ c o c1 c2 c3 c4 e)
theorem zl_end {z TI TO i1 i2 l1 l2 : Addr} {k : Nat} {xs ys : Array Value} {Q : Fin → Shared → Prop} (hh : A.handled = none) (D : ZipApart z TI TO i1 i2 l1 l2) (S : ZS z TI TO i1 i2 l1 l2 xs ys k s.heap)
    (hend : xs[k]? = none ∨ ys[k]? = none)
    (hE : ∀ h' e, (∀ c o, c ≠ z → c ≠ TO → c ≠ i1 → c ≠ i2 → s.heap.get? c = some o → h'.get? c = some o) → (∃ o, h'.get? e = some o ∧ o.cls = .type "StopIteration") → E (.ref e) { s with heap := h' }) :
    wpAny (model prog w) A (Builtin.«zip.__next__» ⟨[.ref z], []⟩) Q E s := by
  obtain ⟨⟨f0, f1, ow, hz⟩, hTI, ⟨a, b, hTO⟩, h1, h2, hl1, hl2⟩ := S
  show wpAny _ _ (field (.ref z) 2 >>= _) _ _ _
  refine wpAny_bind (wpAny_field hz rfl (x := .bool false) rfl ?_)
  show wpAny _ _ (field (.ref z) 3 >>= _) _ _ _
  refine wpAny_bind (wpAny_field hz rfl (x := .ref TI) rfl ?_)
  refine wpAny_bind (wpAny_seqItems hTI rfl ?_)
  show wpAny _ _ (Builtin.SmallTypes.ownedTupleIsFree (.ref z) >>= _) _ _ _
  refine wpAny_bind (zl_free ow hz fun fr h₀ f1' hz₀ hs₀ => ?_)
  have hTI₀ : IsPair h₀ TI (.ref i1) (.ref i2) := hs₀.extBut _ _ D.TIz hTI
  have hTO₀ : IsPair h₀ TO a b := hs₀.extBut _ _ D.TOz hTO
  have h1₀ := h1.extBut hs₀.extBut D.i1z
  have h2₀ := h2.extBut hs₀.extBut D.i2z
  have hl1₀ := hl1.extBut hs₀.extBut D.l1z
  have hl2₀ := hl2.extBut hs₀.extBut D.l2z
  cases fr with
  | false =>
    refine wpAny_ite_split (fun q => by cases q) (fun _ => ?_)
    simp only [List.forIn_toArray, List.forIn_cons, List.forIn_nil]
    refine wpAny_bind (wpAny_bind (wpAny_bind (wpAny_holding ?_)))
    show wpAny _ _ (Builtin.SmallTypes.nextOf (.ref i1) >>= _) _ _ _
    cases hx : xs[k]? with
    | none =>
      refine wpAny_bind (wpAny_nextOf_list_end hh h1₀ hl1₀ hx fun h₂ e hs₂ he => ?_)
      exact hE h₂ e (fun c o c1 _ c3 _ x => hs₂ _ _ c3 (hs₀.extBut _ _ c1 x)) he
    | some x =>
      have hy : ys[k]? = none := by rcases hend with h | h; rw [hx] at h; cases h; exact h
      refine wpAny_bind (wpAny_nextOf_list_item h1₀ hl1₀ hx fun h₂ h1₂ hs₂ => wpAny_pure (wpAny_pure ?_))
      refine wpAny_bind (wpAny_bind (wpAny_holding ?_))
      show wpAny _ _ (Builtin.SmallTypes.nextOf (.ref i2) >>= _) _ _ _
      refine wpAny_bind (wpAny_nextOf_list_end hh (h2₀.extBut hs₂.extBut D.i12.symm) (hl2₀.extBut hs₂.extBut D.l2i1) hy fun h₄ e hs₄ he => ?_)
      exact hE h₄ e (fun c o c1 _ c3 c4 x => hs₄ _ _ c4 (hs₂.extBut _ _ c3 (hs₀.extBut _ _ c1 x))) he
  | true =>
    refine wpAny_ite_split (fun _ => ?_) (fun q => absurd rfl q)
    refine wpAny_bind (wpAny_rule ?_)
    refine wpAny_bind (wpAny_field hz₀ rfl (x := .ref TO) rfl ?_)
    refine wpAny_bind (wpAny_setField_rec hz₀ (by simp) fun h₁ hz₁ hs₁ => ?_)
    replace hz₁ : IsZ h₁ z TI TO .ellipsis f1' := hz₁
    refine wpAny_bind ?_
    simp only [List.zipIdx_cons, List.zipIdx_nil, List.forIn_cons, List.forIn_nil]
    refine wpAny_bind (wpAny_bind (wpAny_onRaise ?_))
    show wpAny _ _ (Builtin.SmallTypes.nextOf (.ref i1) >>= _) _ _ _
    cases hx : xs[k]? with
    | none =>
      refine wpAny_bind (wpAny_nextOf_list_end hh (h1₀.extBut hs₁.extBut D.i1z) (hl1₀.extBut hs₁.extBut D.l1z) hx fun h₂ e hs₂ he => ?_)
      obtain ⟨oe, hoe, hce⟩ := he
      have hz₂ : IsZ h₂ z TI TO .ellipsis f1' := hs₂ _ _ D.i1z.symm hz₁
      have hez : e ≠ z := fun x => by subst x; rw [hz₂] at hoe; cases hoe; simp at hce
      refine wpAny_setField_rec hz₂ (by simp) fun h₃ _ hs₃ => hE h₃ e (fun c o c1 _ c3 _ x => hs₃.extBut _ _ c1 (hs₂ _ _ c3 (hs₁.extBut _ _ c1 (hs₀.extBut _ _ c1 x)))) ⟨oe, hs₃.extBut _ _ hez hoe, hce⟩
    | some x =>
      have hy : ys[k]? = none := by rcases hend with h | h; rw [hx] at h; cases h; exact h
      refine wpAny_bind (wpAny_nextOf_list_item (h1₀.extBut hs₁.extBut D.i1z) (hl1₀.extBut hs₁.extBut D.l1z) hx fun h₂ h1₂ hs₂ => wpAny_pure ?_)
      have hTO₂ : IsPair h₂ TO a b := hs₂.extBut _ _ D.TOi1 (hs₁.extBut _ _ D.TOz hTO₀)
      refine wpAny_bind (wpAny_seqItems hTO₂ rfl ?_)
      refine wpAny_bind (wpAny_updateSeq_pair hTO₂ fun h₃ hTO₃ hs₃ => ?_)
      refine wpAny_bind (wpAny_letGo (wpAny_pure ?_))
      refine wpAny_bind (wpAny_bind (wpAny_onRaise ?_))
      show wpAny _ _ (Builtin.SmallTypes.nextOf (.ref i2) >>= _) _ _ _
      refine wpAny_bind (wpAny_nextOf_list_end hh (((h2₀.extBut hs₁.extBut D.i2z).extBut hs₂.extBut D.i12.symm).extBut hs₃.extBut D.TOi2.symm)
        (((hl2₀.extBut hs₁.extBut D.l2z).extBut hs₂.extBut D.l2i1).extBut hs₃.extBut D.l2TO) hy fun h₄ e hs₄ he => ?_)
      obtain ⟨oe, hoe, hce⟩ := he
      have hz₄ : IsZ h₄ z TI TO .ellipsis f1' := hs₄ _ _ D.i2z.symm (hs₃.extBut _ _ D.TOz.symm (hs₂.extBut _ _ D.i1z.symm hz₁))
      have hez : e ≠ z := fun x => by subst x; rw [hz₄] at hoe; cases hoe; simp at hce
      refine wpAny_setField_rec hz₄ (by simp) fun h₅ _ hs₅ => hE h₅ e (fun c o c1 c2 c3 c4 x => hs₅.extBut _ _ c1 (hs₄ _ _ c4 (hs₃.extBut _ _ c2 (hs₂.extBut _ _ c3 (hs₁.extBut _ _ c1 (hs₀.extBut _ _ c1 x)))))) ⟨oe, hs₅.extBut _ _ hez hoe, hce⟩
theorem zl_next {z TI TO i1 i2 l1 l2 : Addr} {k : Nat} {xs ys : Array Value} {x y : Value} {Q : Option Value → Shared → Prop} (D : ZipApart z TI TO i1 i2 l1 l2) (S : ZS z TI TO i1 i2 l1 l2 xs ys k s.heap)
    (hx : xs[k]? = some x) (hy : ys[k]? = some y)
    (hQ : ∀ h', ZS z TI TO i1 i2 l1 l2 xs ys (k + 1) h' → IsPair h' s.heap.objs.size x y → h'.objs.size = s.heap.objs.size + 1 →
      (∀ c o, c ≠ z → c ≠ TO → c ≠ i1 → c ≠ i2 → s.heap.get? c = some o → h'.get? c = some o) → Q (some (.ref s.heap.objs.size)) { s with heap := h' }) :
    wpAny (model prog w) A (pyNext (.ref z)) Q E s := by
  have hT : s.TypeIs (.ref z) "zip" := by
    obtain ⟨f0, f1, _, hz⟩ := S.hz
    exact ⟨_, hz, rfl⟩
  unfold pyNext
  exact wpAny_bind (wpAny_attempt (wpAny_callSpecial?_slot (name := Str.ofString "__next__") hT PySem.F.slot_zip_next
    (wpAny_call_entry PySem.F.slot_zip_next hT PySem.F.entry_zip_next
      (zl_item D S hx hy fun h' a1 a2 a3 a4 => wpAny_pure (hQ h' a1 a2 a3 a4)) (PySem.F.args_zip_next_1 _))))
theorem zl_last {z TI TO i1 i2 l1 l2 : Addr} {k : Nat} {xs ys : Array Value} {Q : Option Value → Shared → Prop} (hh : A.handled = none) (D : ZipApart z TI TO i1 i2 l1 l2) (S : ZS z TI TO i1 i2 l1 l2 xs ys k s.heap)
    (hend : xs[k]? = none ∨ ys[k]? = none)
    (hQ : ∀ h', (∀ c o, c ≠ z → c ≠ TO → c ≠ i1 → c ≠ i2 → s.heap.get? c = some o → h'.get? c = some o) → Q none { s with heap := h' }) : wpAny (model prog w) A (pyNext (.ref z)) Q E s := by
  have hT : s.TypeIs (.ref z) "zip" := by
    obtain ⟨f0, f1, _, hz⟩ := S.hz
    exact ⟨_, hz, rfl⟩
  unfold pyNext
  refine wpAny_bind (wpAny_attempt (wpAny_callSpecial?_slot (name := Str.ofString "__next__") hT PySem.F.slot_zip_next
    (wpAny_call_entry PySem.F.slot_zip_next hT PySem.F.entry_zip_next (zl_end hh D S hend fun h' e hk he => ?_) (PySem.F.args_zip_next_1 _))))
  obtain ⟨o, ho, hc⟩ := he
  refine wpAny_bind (wpAny_isInstance (T := "StopIteration") (b := true) ⟨o, ho, hc⟩ isSubtype_stop ?_)
  exact wpAny_pure (hQ _ hk)
end
namespace F
theorem zip_no_len : typeLookup (.type "zip") "__len__" = pure none := by rw [typeLookup_type, builtinLookup_eq_fast]; kernel_rfl
theorem zip_no_hint : typeLookup (.type "zip") "__length_hint__" = pure none := by rw [typeLookup_type, builtinLookup_eq_fast]; kernel_rfl
end F
section
variable {X : Cx} {pins : List (Addr × Obj)} {σ : L2.St}
/-- what holds turn by turn: the list made so far, the heap -/
structure ZRun (xs ys : List V) (q : Addr) (P : Nat → List V → Hp → Prop) : Prop where
  own : ∀ i acc H, P i acc H → H q = some (.lst acc)
  step : ∀ i acc H T x y, P i acc H → H T = none → xs[i]? = some x → ys[i]? = some y → P (i + 1) (acc ++ [.ref T]) (upd (upd H T (.tup [x, y])) q (.lst (acc ++ [.ref T])))
theorem zl_loop {A : Around} {z TI TO i1 i2 l1 l2 q : Addr} {xs ys : List V} {its its2 : List Value} {P : Nat → List V → Hp → Prop} {Rs : Result → Shared → Prop} (hh : A.in1.handled = none) (D : ZipApart z TI TO i1 i2 l1 l2)
    (r1 : Vals xs its) (r2 : Vals ys its2) (hq : q ∉ [z, TI, TO, i1, i2, l1, l2]) (Z : ZRun xs ys q P) (hn : min xs.length ys.length ≤ 90000)
    (hdone : ∀ acc H s, Inv X pins σ H s → P (min xs.length ys.length) acc H → Rs (.ok (.ret .none)) s) :
    ∀ (k i : Nat) (acc : List V) (H : Hp) (s : Shared), min xs.length ys.length - i = k → i ≤ min xs.length ys.length → acc.length = i → Inv X pins σ H s → ZS z TI TO i1 i2 l1 l2 its.toArray its2.toArray i s.heap →
      (∀ c ∈ [z, TI, TO, i1, i2], FpOk X pins H c) → P i acc H → codeAny (model X.prog X.w) A (.builtin "list.extend.loop" ⟨[.ref q, .ref z, .none], []⟩) Rs s := by
  have e1 := r1.length
  have e2 := r2.length
  simp only [List.mem_cons, List.not_mem_nil, not_or, or_false] at hq
  obtain ⟨q1, q2, q3, q4, q5, q6, q7⟩ := hq
  intro k
  induction k with
  | zero =>
    intro i acc H s hk hi ha I S hf hP
    have hin : i = min xs.length ys.length := by omega
    refine codeAny_builtin PySem.F.entry_extend_loop ?_
    rw [Around.under_plainId PySem.F.plain_extend_loop _]
    show wpAny _ A.in1 (pyNext (.ref z) >>= _) _ _ s
    refine wpAny_bind (zl_last hh D S ?_ fun h' hk' => wpAny_pure ?_)
    · by_cases q : xs.length ≤ i
      · exact .inl (by simp; omega)
      · exact .inr (by simp; omega)
    · refine hdone acc H _ (I.turnedL (t' := s.toks) (ch := [z, TO, i1, i2]) (fun b o hb e => hk' b o (fun z => hb (by simp [z])) (fun z => hb (by simp [z])) (fun z => hb (by simp [z])) (fun z => hb (by simp [z])) e) fun b hb => hf b ?_) (hin ▸ hP)
      simp at hb ⊢
      rcases hb with z | z | z | z <;> simp [z]
  | succ k ih =>
    intro i acc H s hk hi ha I S hf hP
    have hlt : i < min xs.length ys.length := by omega
    have hx : its.toArray[i]? = some its[i] := by simp
    have hy : its2.toArray[i]? = some its2[i] := by simp
    have hxv : xs[i]? = some xs[i] := List.getElem?_eq_getElem (by omega)
    have hyv : ys[i]? = some ys[i] := List.getElem?_eq_getElem (by omega)
    obtain ⟨u1, hu1, ru1⟩ := r1.get hxv
    obtain ⟨u2, hu2, ru2⟩ := r2.get hyv
    have ru1' : RelV xs[i] its[i] := by
      rw [List.getElem?_eq_getElem (by omega)] at hu1
      cases hu1; exact ru1
    have ru2' : RelV ys[i] its2[i] := by
      rw [List.getElem?_eq_getElem (by omega)] at hu2
      cases hu2; exact ru2
    refine codeAny_builtin PySem.F.entry_extend_loop ?_
    rw [Around.under_plainId PySem.F.plain_extend_loop _]
    show wpAny _ A.in1 (pyNext (.ref z) >>= _) _ _ s
    refine wpAny_bind (zl_next D S hx hy fun h' S' hT hsz hk' => ?_)
    have I1 : Inv X pins σ (upd H s.heap.objs.size (.tup [xs[i], ys[i]])) { s with heap := h' } := by
      refine I.turnedNew (t' := s.toks) (ch := [z, TO, i1, i2]) (fun b o hb e => hk' b o (fun z => hb (by simp [z])) (fun z => hb (by simp [z])) (fun z => hb (by simp [z])) (fun z => hb (by simp [z])) e) (fun b hb => hf b ?_) (Nat.le_refl _)
        (show ObjOk X.prog X.w _ _ _ (.tup [xs[i], ys[i]]) from ⟨by show 2 ≤ sizeLine; decide, [its[i], its2[i]], .cons ru1' (.cons ru2' .nil), ⟨_, hT, rfl, _, rfl⟩⟩)
      simp at hb ⊢
      rcases hb with z | z | z | z <;> simp [z]
    have fr : H s.heap.objs.size = none := I.hok.fresh (Nat.le_refl _)
    have hqo := Z.own i acc H hP
    have hq1 : upd H s.heap.objs.size (.tup [xs[i], ys[i]]) q = some (.lst acc) := by rw [upd_ne (ne_of_none hqo fr)]; exact hqo
    show wpAny _ A.in1 (updateSeq q (·.push _) >>= _) _ _ _
    obtain ⟨zz, itq, kk, rq, hlq, eq⟩ := I1.lstM hq1
    refine wpAny_bind (wpAny_updateSeq eq rfl (wpAny_pure ⟨plainId_quiet PySem.F.plain_extend_loop _, ?_⟩) (by rw [List.size_toArray, ← hlq, sizeLine_eq]; omega) (by show (itq.toArray.push _).size ≤ sizeLine + 1; rw [Array.size_push, List.size_toArray, ← hlq, sizeLine_eq]; omega))
    have I2 := I1.lset (f := (·.push (Value.ref s.heap.objs.size))) (its' := itq ++ [.ref s.heap.objs.size]) (ys := acc ++ [.ref s.heap.objs.size]) (t' := s.toks) hq1 eq (by simp) (rq.append (Paired.cons (show RelV (.ref s.heap.objs.size) (.ref s.heap.objs.size) from rfl) .nil)) (by rw [List.length_append, List.length_singleton, sizeLine_eq]; omega)
    refine ih (i + 1) (acc ++ [.ref s.heap.objs.size]) _ _ (by omega) hlt (by rw [List.length_append, ha]; rfl) I2 ?_ ?_ (Z.step i acc H _ _ _ hP fr hxv hyv)
    · have up : ∀ c o, c ≠ q → h'.get? c = some o → (h'.update q (Obj.mapSeq (·.push (.ref s.heap.objs.size)))).get? c = some o := fun c o n e => (Heap.get?_update_other _ _ (Ne.symm n)).trans e
      obtain ⟨⟨f0, f1, ow, hz⟩, hTI, ⟨a, b, hTO⟩, h1, h2, hl1, hl2⟩ := S'
      exact ⟨⟨f0, f1, ow, up _ _ (Ne.symm q1) hz⟩, up _ _ (Ne.symm q2) hTI, ⟨a, b, up _ _ (Ne.symm q3) hTO⟩, h1.at fun o e => up _ o (Ne.symm q4) e, h2.at fun o e => up _ o (Ne.symm q5) e, hl1.at fun o e => up _ o (Ne.symm q6) e, hl2.at fun o e => up _ o (Ne.symm q7) e⟩
    · intro c hc
      obtain ⟨n, rest⟩ := hf c hc
      refine ⟨?_, rest⟩
      have c1 : c ≠ q := by
        simp at hc
        rcases hc with z | z | z | z | z <;> (rw [z]; exact Ne.symm ‹_›)
      have c2 : c < s.heap.objs.size := by
        obtain ⟨⟨f0, f1, ow, hz⟩, hTI, ⟨a, b, hTO⟩, h1, h2, hl1, hl2⟩ := S
        simp at hc
        rcases hc with z | z | z | z | z
        · rw [z]; exact Heap.lt_size hz
        · rw [z]; exact Heap.lt_size hTI
        · rw [z]; exact Heap.lt_size hTO
        · rw [z]; obtain ⟨_, e, _⟩ := h1; exact Heap.lt_size e
        · rw [z]; obtain ⟨_, e, _⟩ := h2; exact Heap.lt_size e
      rw [upd_ne c1, upd_ne (Nat.ne_of_lt c2)]
      exact n
end
end DL

namespace DL
open PySem PySem.Spec PyProof.Rows L2
section
variable {X : Cx} {pins : List (Addr × Obj)} {σ : L2.St}
theorem zl_extend {A : Around} {s : Shared} {H : Hp} {z TI TO i1 i2 l1 l2 q : Addr} {xs ys : List V} {its its2 : List Value} {P : Nat → List V → Hp → Prop} {Rs : Result → Shared → Prop} (hh : A.in1.handled = none) (D : ZipApart z TI TO i1 i2 l1 l2)
    (r1 : Vals xs its) (r2 : Vals ys its2) (hq : q ∉ [z, TI, TO, i1, i2, l1, l2]) (Z : ZRun xs ys q P) (hn : min xs.length ys.length ≤ 90000)
    (hdone : ∀ acc H s, Inv X pins σ H s → P (min xs.length ys.length) acc H → Rs (.ok (.ret .none)) s)
    (I : Inv X pins σ H s) (S : ZS z TI TO i1 i2 l1 l2 its.toArray its2.toArray 0 s.heap) (hz : IsZip s.heap z TI TO .none) (hf : ∀ c ∈ [z, TI, TO, i1, i2], FpOk X pins H c) (hP : P 0 [] H) :
    wpAny (model X.prog X.w) A.in1 (Builtin.List.listExtendWith (.ref q) (.ref z) .none)
      (fun fin s' => match fin with | .done f => Rs (.ok f) s' | .again c' => c'.quiet = true ∧ codeAny (model X.prog X.w) A c' Rs s') (fun e s' => Rs (.error e) s') s := by
  have hq' := hq
  simp only [List.mem_cons, List.not_mem_nil, not_or, or_false] at hq'
  obtain ⟨q1, q2, q3, q4, q5, q6, q7⟩ := hq'
  have hT : s.TypeIs (.ref z) "zip" := ⟨_, hz, rfl⟩
  unfold Builtin.List.listExtendWith
  refine wpAny_bind (wpAny_typeOf hT ?_)
  have h1 : Builtin.List.listSameRef (.ref q) (.ref z) = false := by simp [Builtin.List.listSameRef, q1]
  have h2 : (Value.type "zip" == Value.type "list") = false := by decide
  have h3 : (Value.type "zip" == Value.type "tuple") = false := by decide
  simp only [h1, h2, h3, Bool.or_false, Bool.false_eq_true, if_false]
  refine wpAny_bind (wpAny_pyIter_zip hz ?_)
  refine wpAny_bind (wpAny_holding ?_)
  unfold Builtin.List.listLengthHint
  refine wpAny_bind (wpAny_specialOf hT F.zip_no_len ?_)
  show wpAny _ A.in1 (specialOf (Value.ref z) (Str.ofString "__length_hint__") >>= _) _ _ _
  refine wpAny_bind (wpAny_specialOf hT F.zip_no_hint ?_)
  refine wpAny_pure ?_
  show wpAny _ A.in1 (rule "list.extend.makes-room" >>= fun _ => Builtin.List.listTouch (.ref q) >>= fun _ =>
    again (.builtin "list.extend.loop" ⟨[.ref q, .ref z, .none], []⟩)) _ _ _
  refine wpAny_bind (wpAny_rule ?_)
  refine wpAny_bind ?_
  show wpAny _ A.in1 (updateSeq q (·.push .none) >>= fun _ => updateSeq q (·.pop)) _ _ _
  have hq0 := Z.own 0 [] H hP
  obtain ⟨z0, its0, k0, r0, hl0, e0⟩ := I.lstM hq0
  cases r0
  refine wpAny_bind (wpAny_updateSeq e0 rfl ?_)
  have I2 := I.lset (f := (·.push Value.none)) (its' := [Value.none]) (ys := [.non]) (t' := s.toks) hq0 e0 (by simp) (.cons rfl .nil) (by rw [List.length_singleton, sizeLine_eq]; decide)
  obtain ⟨z4, its4, k4, r4, hl4, e4⟩ := I2.lstM upd_same
  obtain ⟨u4, rfl, ru4⟩ := r4.one
  refine wpAny_updateSeq e4 rfl ?_ (by show 1 ≤ sizeLine; rw [sizeLine_eq]; decide) (by show 0 ≤ sizeLine + 1; exact Nat.zero_le _)
  have I3 := I2.lset (f := (·.pop)) (its := [u4]) (its' := []) (ys := []) (t' := s.toks) upd_same e4 (by rfl) .nil (Nat.zero_le _)
  rw [upd_upd] at I3
  have hH : upd H q (.lst []) = H := by
    funext b
    by_cases hb : b = q
    · rw [hb, upd_same, hq0]
    · rw [upd_ne hb]
  rw [hH] at I3
  refine wpAny_pure ⟨plainId_quiet PySem.F.plain_extend_loop _, zl_loop hh D r1 r2 hq Z hn hdone _ 0 [] H _ rfl (Nat.zero_le _) rfl I3 ?_ hf hP⟩
  have oth : ∀ c o, c ≠ q → s.heap.get? c = some o → ((s.heap.update q (Obj.mapSeq (·.push Value.none))).update q (Obj.mapSeq (·.pop))).get? c = some o :=
    fun b o hb e => (Heap.get?_update_other _ _ (Ne.symm hb)).trans ((Heap.get?_update_other _ _ (Ne.symm hb)).trans e)
  obtain ⟨⟨f0, f1, ow, hz'⟩, hTI, ⟨a, b, hTO⟩, g1, g2, hl1, hl2⟩ := S
  exact ⟨⟨f0, f1, ow, oth _ _ (Ne.symm q1) hz'⟩, oth _ _ (Ne.symm q2) hTI, ⟨a, b, oth _ _ (Ne.symm q3) hTO⟩, g1.at fun o e => oth _ o (Ne.symm q4) e, g2.at fun o e => oth _ o (Ne.symm q5) e, hl1.at fun o e => oth _ o (Ne.symm q6) e, hl2.at fun o e => oth _ o (Ne.symm q7) e⟩
/-- list(z) of a zip not yet begun -/
theorem call_listZip {s : Shared} {H : Hp} {z TI TO i1 i2 l1 l2 : Addr} {xs ys : List V} {its its2 : List Value} {Q : VK} (hc : X.calm = true) (D : ZipApart z TI TO i1 i2 l1 l2)
    (r1 : Vals xs its) (r2 : Vals ys its2) (hn : min xs.length ys.length ≤ 90000)
    (hrun : ∀ q, H q = none → ∃ P, P 0 [] (upd H q (.lst [])) ∧ ZRun xs ys q P ∧ ∀ acc H', P (min xs.length ys.length) acc H' → Q (.ref q) H')
    (I : Inv X pins σ H s) (S : ZS z TI TO i1 i2 l1 l2 its.toArray its2.toArray 0 s.heap) (hz : IsZip s.heap z TI TO .none) (hf : ∀ c ∈ [z, TI, TO, i1, i2], FpOk X pins H c) :
    wpAny (model X.prog X.w) X.A (call (.type "list") [.ref z]) (EP X pins σ Q) X.xe s := by
  refine callType_codes (Q₁ := fun obj s₁ => obj = .ref s.heap.objs.size ∧ s₁ = { s with heap := s.heap.push { cls := .type "list", data := .seq #[] } }) PySem.F.called_list (PySem.F.typeCall_list_1 _) PySem.F.entry_list_init
    (code_list_new _ ⟨rfl, rfl⟩) fun obj s₁ h₁ => ?_
  obtain ⟨rfl, rfl⟩ := h₁
  have hS : (s.heap.push { cls := .type "list", data := .seq #[] }).get? s.heap.objs.size = some { cls := .type "list", data := .seq #[] } := Heap.get?_push_size _ rfl
  refine ⟨⟨_, hS, rfl⟩, PySem.F.args_list_init_2 _ _, ?_⟩
  have fr : H s.heap.objs.size = none := I.hok.fresh (Nat.le_refl _)
  obtain ⟨P, hP, Z, hd⟩ := hrun _ fr
  have I1 : Inv X pins σ (upd H s.heap.objs.size (.lst [])) { s with heap := s.heap.push { cls := .type "list", data := .seq #[] } } := I.lnew (its := []) (t' := s.toks) .nil (Nat.zero_le _)
  show wpAny _ _ (do let old ← Builtin.List.listItems (.ref s.heap.objs.size); Builtin.List.listUpdate (.ref s.heap.objs.size) (fun _ => #[]); letGo old.toList.reverse; Builtin.List.listExtendWith (.ref s.heap.objs.size) (.ref z) .none) _ _ _
  refine wpAny_bind ?_
  unfold Builtin.List.listItems
  refine wpAny_bind (wpAny_seqItems hS rfl (wpAny_pure ?_))
  show wpAny _ _ (updateSeq s.heap.objs.size (fun _ => #[]) >>= fun _ => letGo (#[] : Array Value).toList.reverse >>= fun _ => Builtin.List.listExtendWith (.ref s.heap.objs.size) (.ref z) .none) _ _ _
  refine wpAny_bind (wpAny_updateSeq hS rfl ?_)
  have I2 := I1.lset (f := fun _ => #[]) (its := []) (its' := []) (ys := []) (t' := s.toks) upd_same hS rfl .nil (Nat.zero_le _)
  rw [upd_upd] at I2
  refine wpAny_bind (wpAny_letGo ?_)
  have lt : ∀ {c o}, s.heap.get? c = some o → s.heap.objs.size ≠ c := fun e => Nat.ne_of_gt (Heap.lt_size e)
  obtain ⟨⟨f0, f1, ow, hz'⟩, hTI, ⟨a, b, hTO⟩, g1, g2, hl1, hl2⟩ := S
  have n1 := lt hz
  have n2 := lt hTI
  have n3 := lt hTO
  have n4 : s.heap.objs.size ≠ i1 := by obtain ⟨_, e, _⟩ := g1; exact lt e
  have n5 : s.heap.objs.size ≠ i2 := by obtain ⟨_, e, _⟩ := g2; exact lt e
  have n6 : s.heap.objs.size ≠ l1 := by obtain ⟨_, e, _⟩ := hl1; exact lt e
  have n7 : s.heap.objs.size ≠ l2 := by obtain ⟨_, e, _⟩ := hl2; exact lt e
  have oth : ∀ c o, c ≠ s.heap.objs.size → s.heap.get? c = some o → ((s.heap.push { cls := .type "list", data := .seq #[] }).update s.heap.objs.size (Obj.mapSeq (fun _ => #[]))).get? c = some o :=
    fun c o hb e => (Heap.get?_update_other _ _ (Ne.symm hb)).trans (Heap.get?_push_of_some _ e)
  refine zl_extend (A := X.A.in1) (q := s.heap.objs.size) (its := its) (its2 := its2) (Rs := wants (fun r s₂ => r = .none ∧ EP X pins σ Q (.ref s.heap.objs.size) s₂) X.xe) (I.ok.hd hc) D r1 r2 (by simp [n1, n2, n3, n4, n5, n6, n7]) Z hn
    (fun acc H' s' I' hR => ⟨rfl, .ref s.heap.objs.size, H', I', rfl, hd acc H' hR⟩) I2
    ⟨⟨f0, f1, ow, oth _ _ (Ne.symm n1) hz'⟩, oth _ _ (Ne.symm n2) hTI, ⟨a, b, oth _ _ (Ne.symm n3) hTO⟩, g1.at fun o e => oth _ o (Ne.symm n4) e, g2.at fun o e => oth _ o (Ne.symm n5) e, hl1.at fun o e => oth _ o (Ne.symm n6) e, hl2.at fun o e => oth _ o (Ne.symm n7) e⟩
    (oth _ _ (Ne.symm n1) hz) (fun c hc => ?_) hP
  obtain ⟨n, rest⟩ := hf c hc
  refine ⟨?_, rest⟩
  have c1 : c ≠ s.heap.objs.size := by
    simp at hc
    rcases hc with z | z | z | z | z <;> (rw [z]; exact Ne.symm ‹_›)
  rw [upd_ne c1]
  exact n
/-- list(zip(e, e2)) -/
def tZipL (K : PySem.W.Frag) (ta : TA) : TE := fun σ H Q => ta σ H fun vs H1 => ∃ a b xs ys, vs = [.ref a, .ref b] ∧ SqL K H1 a xs ∧ SqL K H1 b ys ∧ min xs.length ys.length ≤ 90000 ∧
  ∀ q, H1 q = none → ∃ P, P 0 [] (upd H1 q (.lst [])) ∧ ZRun xs ys q P ∧ ∀ acc H', P (min xs.length ys.length) acc H' → Q (.ref q) H'
theorem pe_listZip {e e2 : Expr} {ta : TA} {p p2 pos pos2 : Pos} (hc : X.calm = true) (hg : Gl X "list") (hm : X.mg "list" = none) (hg2 : Gl X "zip") (hm2 : X.mg "zip" = none) (ha : PA X [e, e2] ta)
    (hs : starEach [e, e2] X.env = (false, eval e X.env) :: starEach [e2] X.env := by rfl) (hpl : (backTo pos (starEach [e2] X.env)).any (·.1) = false := by rfl)
    (na : starEach [.Call (.Name "zip" p) [e, e2] [] pos] X.env = (false, eval (.Call (.Name "zip" p) [e, e2] [] pos) X.env) :: starEach [] X.env := by rfl) :
    PE X (.Call (.Name "list" p2) [.Call (.Name "zip" p) [e, e2] [] pos] [] pos2) (tZipL X.K ta) := by
  refine ⟨fun pins s σ H Q I h => ?_⟩
  refine Call_ (ld_blt I hg hm boot_list (PyProof.Rows.callWith_type1 (args_cons ?_ na) na))
  refine Call_ (ld_blt I hg2 hm2 PyProof.Rows.boot_zip (PyProof.Rows.callWith_type1 (thn (ha.run pos pins s σ H _ I h) fun us s1 ⟨vs, H1, I1, r1, q1⟩ => ?_) hs hpl))
  obtain ⟨a, b, xs, ys, ex, hqx, hqy, hn, q⟩ := q1
  subst ex
  cases r1 with
  | cons r rr =>
    cases rr with
    | cons r' rr =>
      cases rr
      cases r
      cases r'
      obtain ⟨its, rv, p1, _⟩ := I1.list hqx
      obtain ⟨its2, rv2, p2, _⟩ := I1.list hqy
      have la : a < s1.heap.objs.size := p1.lt
      have lb : b < s1.heap.objs.size := p2.lt
      refine call_zip_2 p1.isList p2.isList fun h' hz hTI hTO h1 h2 hsz hk => args_nil ?_
      have I2 : Inv X pins σ H1 { s1 with heap := h' } := I1.kept (t' := s1.toks) hk
      refine call_listZip hc (PySem.W.ktu_apart s1.heap.objs.size a b la lb) rv rv2 hn q I2 ⟨⟨_, _, .inl rfl, hz⟩, hTI, ⟨_, _, hTO⟩, h1, h2, p1.isList.at fun o e => hk _ o e, p2.isList.at fun o e => hk _ o e⟩ hz fun c hcm => ?_
      have hle : s1.heap.objs.size ≤ c := by
        simp at hcm
        rcases hcm with z | z | z | z | z <;> (rw [z]; omega)
      exact I1.fpOk hle (I1.hok.fresh hle)
end
end DL

namespace DL
open PySem PySem.Spec PyProof.Rows L2
def kLstZip : List D → M D
  | [.list xs, .list ys] => chk (decide (min xs.length ys.length ≤ 90000)) (M.pure (.list (zipD xs ys)))
  | _ => M.bad
theorem pu_kLstZip : ∀ d, Pu (kLstZip d) := by intro d; unfold kLstZip; split <;> first | exact pu_chk pu_pure | exact pu_bad
section
variable [Ec] {κ : Kn} {W : WX} {X : Cx}
theorem zipD_take {xs ys : List D} {i : Nat} {x y : D} (hx : xs[i]? = some x) (hy : ys[i]? = some y) : (zipD xs ys).take (i + 1) = (zipD xs ys).take i ++ [.tuple [x, y]] := by
  rw [List.take_add_one]
  congr 1
  unfold zipD
  rw [List.getElem?_zipWith, hx, hy]
  rfl
theorem de_listZip {a b : Expr} {fs : DL.X (List D)} {p p2 pos pos2 : Pos} (hc : X.calm = true) (hg : Gl X "list") (hm : X.mg "list" = none) (hg2 : Gl X "zip") (hm2 : X.mg "zip" = none) (ha : DA κ W X [RD, RD] [a, b] fs)
    (hs : starEach [a, b] X.env = (false, eval a X.env) :: starEach [b] X.env := by rfl) (hpl : (backTo pos (starEach [b] X.env)).any (·.1) = false := by rfl)
    (na : starEach [.Call (.Name "zip" p) [a, b] [] pos] X.env = (false, eval (.Call (.Name "zip" p) [a, b] [] pos) X.env) :: starEach [] X.env := by rfl) :
    DE κ W X RN (.Call (.Name "list" p2) [.Call (.Name "zip" p) [a, b] [] pos] [] pos2) (xCall kLstZip fs) :=
  PE.weak (pe_listZip hc hg hm hg2 hm2 (PA.len ha) hs hpl na) fun σ H Q ⟨g, F, own, ρ, w, lr, p⟩ => by
    refine ⟨g, F, own, ρ, w, lr, (po_bind p).mono fun ds g1 F1 w1 H1 e1 k1 p1 vs hv hlen => ?_⟩
    have p2 := p1 e1
    obtain ⟨v, v', d, d', rfl, rfl, h1, h2⟩ := rpr2 hv
    cases d with
    | list xs =>
     cases d' with
     | list ys =>
      obtain ⟨c, p2⟩ := po_chk p2
      have c' := of_decide_eq_true c
      cases h1 with
      | lst hF1 hr1 =>
        cases h2 with
        | lst hF2 hr2 =>
          rename_i a1 v1 a2 v2
          have l1 := hr1.length
          have l2 := hr2.length
          refine ⟨a1, a2, v1, v2, rfl, SqL.of (k1.FH _ _ hF1), SqL.of (k1.FH _ _ hF2), by omega, fun q hq => ?_⟩
          have nq := k1.fresh hq
          refine ⟨fun i acc H => H q = some (.lst acc) ∧ ∃ F, Ext g1 F1 H1 g1 F H ∧ Wk κ g1 F w1 H ∧ F q = none ∧ RpL g1 F acc ((zipD xs ys).take i), ⟨upd_same, F1, Ext.hid hq, k1.hid nq.1 nq.2, nq.2, .nil⟩, ⟨fun i acc H hP => hP.1, fun i acc H T x y hP hT hx hy => ?_⟩, fun acc H' hP => ?_⟩
          · obtain ⟨hqa, F, ex, k, hFq, hr⟩ := hP
            have hFT := (k.fresh hT).2
            have hqT : q ≠ T := ne_of_none hqa hT
            have up : ∀ a o, F a = some o → upd F T (.tup [x, y]) a = some o := fun a o z => by rw [upd_ne (ne_of_none z hFT)]; exact z
            obtain ⟨dx, hdx, rx⟩ := hr1.getV hx
            obtain ⟨dy, hdy, ry⟩ := hr2.getV hy
            refine ⟨upd_same, upd F T (.tup [x, y]), (ex.trans (Ext.new hT hFT)).poke hq, (k.new hT).hid nq.1 (by rw [upd_ne hqT]; exact hFq), by rw [upd_ne hqT]; exact hFq, ?_⟩
            rw [zipD_take hdx hdy]
            exact (hr.mono List.prefix_rfl up).append (.cons (.tup upd_same (.cons ((rx.mono ex.gg ex.FF).mono List.prefix_rfl up) (.cons ((ry.mono ex.gg ex.FF).mono List.prefix_rfl up) .nil))) .nil)
          · obtain ⟨hqa, F, ex, k, hFq, hr⟩ := hP
            have hl : (zipD xs ys).length = min v1.length v2.length := by unfold zipD; rw [List.length_zipWith, l1, l2]
            rw [← hl, List.take_length] at hr
            exact p2 g1 F H' ex k _ ⟨q, acc, _, rfl, rfl, e1.there q hq, hFq, nq.1, hqa, hr⟩
     | _ => exact p2.elim
    | _ => exact p2.elim
end
theorem kLstZip_l {α β : Type} [DecidableEq α] [DecidableEq β] [Enc α] [Enc β] {xs : List α} {ys : List β} (h : min xs.length ys.length ≤ 90000) : kLstZip [eL xs, eL ys] = M.pure (eL (xs.zip ys)) := by
  have e : ∀ (xs : List α) (ys : List β), zipD (xs.map Enc.e) (ys.map Enc.e) = (xs.zip ys).map Enc.e := by
    intro xs
    induction xs with
    | nil => intro ys; rfl
    | cons x xs ih =>
      intro ys
      cases ys with
      | nil => rfl
      | cons y ys =>
        show PyData.tuple [Enc.e x, Enc.e y] :: zipD (xs.map Enc.e) (ys.map Enc.e) = _
        rw [ih]
        rfl
  unfold kLstZip eL
  dsimp only
  rw [List.length_map, List.length_map, e]
  have : decide (min xs.length ys.length ≤ 90000) = true := decide_eq_true h
  rw [this]
  rfl
end DL

/-! sorted of lists of ints' lists; one list below another. -/
namespace DL
open PySem PySem.Spec PyProof.Rows L2
def leR : List Int → List Int → Bool
  | [], _ => true
  | _ :: _, [] => false
  | x :: xs, y :: ys => decide (x < y) || (decide (x = y) && leR xs ys)
theorem leR_iff : ∀ {xs ys : List Int}, leR xs ys = true ↔ xs ≤ ys
  | [], ys => by simp [leR]
  | x :: xs, [] => by simp [leR]
  | x :: xs, y :: ys => by
    have e : leR (x :: xs) (y :: ys) = (decide (x < y) || (decide (x = y) && leR xs ys)) := rfl
    rw [List.cons_le_cons_iff, ← leR_iff, e]
    simp
theorem leR_refl (x : List Int) : leR x x = true := leR_iff.mpr (List.le_refl x)
theorem leR_trans {a b c : List Int} (h : leR a b = true) (k : leR b c = true) : leR a c = true := leR_iff.mpr (List.le_trans (leR_iff.mp h) (leR_iff.mp k))
theorem leR_anti {a b : List Int} (h : leR a b = true) (k : leR b a = true) : a = b := List.le_antisymm (leR_iff.mp h) (leR_iff.mp k)
theorem leR_total (a b : List Int) : leR a b = true ∨ leR b a = true := (List.le_total a b).imp leR_iff.mpr leR_iff.mpr
def insR (x : List Int) : List (List Int) → List (List Int)
  | [] => [x]
  | y :: r => if leR x y then x :: y :: r else y :: insR x r
def sortR : List (List Int) → List (List Int)
  | [] => []
  | x :: r => insR x (sortR r)
theorem insR_perm (x : List Int) : ∀ l, (insR x l).Perm (x :: l)
  | [] => List.Perm.refl _
  | y :: r => by
    unfold insR
    split
    · exact List.Perm.refl _
    · exact ((insR_perm x r).cons y).trans (List.Perm.swap x y r)
theorem sortR_perm : ∀ l, (sortR l).Perm l
  | [] => List.Perm.refl _
  | x :: r => (insR_perm x (sortR r)).trans ((sortR_perm r).cons x)
theorem insR_sorted (x : List Int) : ∀ l : List (List Int), l.Pairwise (fun a b => leR a b = true) → (insR x l).Pairwise (fun a b => leR a b = true)
  | [], _ => List.pairwise_singleton _ _
  | y :: r, h => by
    unfold insR
    have h' := List.pairwise_cons.mp h
    split
    · rename_i hxy
      refine List.pairwise_cons.mpr ⟨fun z hz => ?_, h⟩
      rcases List.mem_cons.mp hz with e | hz
      · rw [e]; exact hxy
      · exact leR_trans hxy (h'.1 z hz)
    · rename_i hxy
      have hyx : leR y x = true := (leR_total x y).resolve_left hxy
      refine List.pairwise_cons.mpr ⟨fun z hz => ?_, insR_sorted x r h'.2⟩
      rcases List.mem_cons.mp ((insR_perm x r).mem_iff.mp hz) with e | hz
      · rw [e]; exact hyx
      · exact h'.1 z hz
theorem sortR_sorted : ∀ l, (sortR l).Pairwise (fun a b => leR a b = true)
  | [] => List.Pairwise.nil
  | x :: r => insR_sorted x _ (sortR_sorted r)
theorem sortedR_uniq : ∀ {a b : List (List Int)}, a.Perm b → a.Pairwise (fun a b => leR a b = true) → b.Pairwise (fun a b => leR a b = true) → a = b
  | [], b, h, _, _ => (List.Perm.eq_nil h.symm).symm
  | x :: a, [], h, _, _ => absurd h.length_eq (by simp)
  | x :: a, y :: b, h, ha, hb => by
    have ha' := List.pairwise_cons.mp ha
    have hb' := List.pairwise_cons.mp hb
    have e : x = y := by
      rcases List.mem_cons.mp (h.mem_iff.mp List.mem_cons_self) with e | h1
      · exact e
      · rcases List.mem_cons.mp (h.mem_iff.mpr List.mem_cons_self) with e | h2
        · exact e.symm
        · exact leR_anti (ha'.1 y h2) (hb'.1 x h1)
    subst e
    rw [sortedR_uniq (List.Perm.cons_inv h) ha'.2 hb'.2]
theorem mergeR {l : List (List Int)} : l.mergeSort (fun p q => decide (p ≤ q)) = sortR l := by
  refine sortedR_uniq ((List.mergeSort_perm l _).trans (sortR_perm l).symm) ?_ (sortR_sorted l)
  refine (List.pairwise_mergeSort (le := fun p q : List Int => decide (p ≤ q)) (fun a b c h k => ?_) (fun a b => ?_) l).imp fun {a b} h => leR_iff.mpr (of_decide_eq_true h)
  · exact decide_eq_true (List.le_trans (of_decide_eq_true h) (of_decide_eq_true k))
  · rcases List.le_total a b with h | h <;> simp [h]
/-- rows read off data -/
def rowsOf : List D → Option (List (List Int))
  | [] => some []
  | .list ds :: r => match intsOf ds with
    | some ns => (rowsOf r).map (ns :: ·)
    | none => none
  | _ => none
def eR (row : List Int) : D := .list (dInts row)
theorem rowsOf_eq : ∀ {ds : List D} {rows : List (List Int)}, rowsOf ds = some rows → ds = rows.map eR
  | [], rows, h => by cases h; rfl
  | d :: r, rows, h => by
    cases d with
    | list xs =>
      unfold rowsOf at h
      cases e : intsOf xs with
      | none => rw [e] at h; cases h
      | some ns =>
        rw [e] at h
        dsimp only at h
        cases e2 : rowsOf r with
        | none => rw [e2] at h; cases h
        | some rs =>
          rw [e2] at h
          cases h
          rw [intsOf_eq e, rowsOf_eq e2]
          rfl
    | _ => cases h
theorem rowsOf_map : ∀ rows : List (List Int), rowsOf (rows.map eR) = some rows
  | [] => rfl
  | x :: r => by
    show (match intsOf (dInts x) with | some ns => (rowsOf (r.map eR)).map (ns :: ·) | none => none) = _
    rw [intsOf_dInts, rowsOf_map r]
    rfl
def rSortD (K : PySem.W.Frag) : List V → Hp → VK → Prop := fun vs H Q => ∃ (a : Addr) (xs : List V) (rows : List (List Int)), vs = [V.ref a] ∧ SqL K H a xs ∧ DpAll K H xs (rows.map eR) ∧
  ∀ (ps : List (V × List Int)) (p : Addr), ps.Perm (xs.zip rows) → ps.map (·.2) = sortR rows → H p = none → Q (.ref p) (upd H p (.lst (ps.map (·.1))))
theorem dpAll_len {K : PySem.W.Frag} {H : Hp} : ∀ {xs : List V} {ds : List D}, DpAll K H xs ds → xs.length = ds.length
  | _, _, .nil => rfl
  | _, _, .cons _ t => by rw [List.length_cons, List.length_cons, dpAll_len t]
theorem rows_each {X : Cx} {pins : List (Addr × Obj)} {σ : L2.St} {H : Hp} {s : Shared} (I : L2.Inv X pins σ H s) : ∀ {xs : List V} {rows : List (List Int)} {us : List Value}, DpAll X.K H xs (rows.map eR) → Vals xs us →
    PySem.W.EachIs (fun (u : Value) (b : V × List Int) => RelV b.1 u) us (xs.zip rows) ∧ PySem.W.EachIs (fun (u : Value) (b : V × List Int) => ∃ as, Reads s.heap u (eR b.2) as) us (xs.zip rows)
  | [], [], _, _, .nil => ⟨.nil, .nil⟩
  | x :: xs, [], _, h, _ => nomatch h
  | [], r :: rows, _, h, _ => nomatch h
  | x :: xs, r :: rows, _, h, .cons rv rs => by
    cases h with
    | cons h1 h2 =>
      obtain ⟨e1, e2⟩ := rows_each I h2 rs
      exact ⟨.cons rv e1, .cons (Dp.reads I _ _ _ h1 rv) e2⟩
theorem each_vals {ps : List (V × List Int)} {us : List Value} (h : PySem.W.EachIs (fun (u : Value) (b : V × List Int) => RelV b.1 u) us ps) : Vals (ps.map (·.1)) us := by
  induction h with
  | nil => exact .nil
  | cons h _ ih => exact .cons h ih
theorem alike_eR (a b : List Int) : PySem.W.alike (eR a) (eR b) = true := by
  unfold eR
  simp only [PySem.W.alike]
  exact PySem.W.alike_ints a b
section
variable {X : Cx}
theorem cr_sortD (hu : X.A.units + 65 < cLine) : CallR X (.builtin "sorted") (rSortD X.K) := by
  intro pins s σ H vs us Q I r h
  obtain ⟨a, xs, rows, rfl, hs, hd, q⟩ := h
  obtain ⟨its, rv, hl, hz⟩ := I.list hs
  obtain ⟨u, rfl, ru⟩ := vals1 r
  obtain rfl : u = Value.ref a := ru
  obtain ⟨e1, e2⟩ := rows_each I hd rv
  have hlen := dpAll_len hd
  rw [List.length_map] at hlen
  refine PySem.W.sorted_data (enc := fun b : V × List Int => eR b.2) (bs := xs.zip rows) hl.isList e1 e2 (PySem.W.AllAlike.of fun b b' => alike_eR _ _) (PySem.W.Sortable.others fun b => ⟨fun z => (nomatch z), fun ys z => (nomatch z)⟩)
    (by rw [List.length_zip]; omega) (fun b _ => ?_) fun out ho he => ?_
  · have : (eR b.2).depth = 1 + 0 := by
      unfold eR
      simp only [PyData.depth]
      rw [depth_ints]
    rw [this]
    omega
  · have hk : PySem.W.dataLe false (fun b : V × List Int => eR b.2) = fun p q => decide (p.2 ≤ q.2) := PySem.W.dataLe_rows fun b : V × List Int => b.2
    rw [hk] at he
    have hv := each_vals he
    have hp := List.mergeSort_perm (xs.zip rows) (fun p q => decide (p.2 ≤ q.2))
    have h2 : ((xs.zip rows).mergeSort (fun p q => decide (p.2 ≤ q.2))).map (·.2) = sortR rows := by
      rw [List.map_mergeSort (r := fun p q : V × List Int => decide (p.2 ≤ q.2)) (s := fun p q : List Int => decide (p ≤ q)) (f := fun b : V × List Int => b.2) (fun a _ b _ => rfl), mergeR]
      congr 1
      exact List.map_snd_zip (by omega)
    generalize (xs.zip rows).mergeSort (fun p q => decide (p.2 ≤ q.2)) = ps at hv hp h2
    obtain ⟨ep, he'⟩ := PyProof.Rows.sortedAll_at s.heap its out.toArray
    have hz2 : (ps.map (·.1)).length ≤ sizeLine := by
      rw [List.length_map, hp.length_eq, List.length_zip]
      omega
    exact ⟨.ref _, upd H (s.heap.objs.size + 1) (.lst (ps.map (·.1))), I.laid (t' := s.toks) (fun _ _ => PyProof.Rows.sortedAll_old) (Nat.le_succ _) ⟨hz2, out, ep, hv, he'⟩, rfl, q _ _ hp h2 (I.hok.fresh (Nat.le_succ _))⟩
end
def kSortR : List D → M D
  | [.list ds] => match rowsOf ds with
    | some rows => M.pure (.list ((sortR rows).map eR))
    | none => M.bad
  | _ => M.bad
theorem pu_kSortR : ∀ d, Pu (kSortR d) := by
  intro d
  unfold kSortR
  split
  · split
    · exact pu_pure
    · exact pu_bad
  · exact pu_bad
theorem rpl_pairs [Ec] {g : List Addr} {F : Hp} {xs : List V} {rows : List (List Int)} (h : RpL g F xs (rows.map eR)) : ∀ p ∈ xs.zip rows, Rp g F p.1 (eR p.2) := by
  induction rows generalizing xs with
  | nil => cases h; intro p hp; simp at hp
  | cons r rows ih =>
    cases h with
    | cons h1 h2 =>
      intro p hp
      rcases List.mem_cons.mp hp with e | e
      · rw [e]; exact h1
      · exact ih h2 p e
theorem rpl_of_pairs [Ec] {g : List Addr} {F : Hp} : ∀ {ps : List (V × List Int)}, (∀ p ∈ ps, Rp g F p.1 (eR p.2)) → RpL g F (ps.map (·.1)) ((ps.map (·.2)).map eR)
  | [], _ => .nil
  | p :: ps, h => .cons (h p List.mem_cons_self) (rpl_of_pairs fun q hq => h q (List.mem_cons_of_mem _ hq))
theorem lay_rows : ∀ rows : List (List Int), PyData.canLayAll0 (rows.map eR) = true
  | [] => rfl
  | r :: rows => by
    show PyData.canLayAll0 (eR r :: rows.map eR) = true
    rw [PyData.canLayAll0, lay_rows rows, Bool.and_true]
    show PyData.canLay0 (.list (dInts r)) = true
    rw [PyData.canLay0]
    exact lay_ints r
section
variable [Ec] {κ : Kn} {W : WX} {X : Cx}
theorem k_sortR [MkL R] : OpA κ W [RV] R (rSortD X.K) kSortR := by
  intro g F w H0 H σ vs ds Q k hv p
  obtain ⟨v, d, rfl, rfl, hd⟩ := rpr1 hv
  cases d with
  | list ds =>
    unfold kSortR at p
    dsimp only at p
    cases e : rowsOf ds with
    | none => rw [e] at p; exact p.elim
    | some rows =>
      rw [e] at p
      have e2 := rowsOf_eq e
      subst e2
      obtain ⟨a, xs, rfl, ha, hr⟩ := RV.list hd k
      refine ⟨a, xs, rows, rfl, SqL.of ha, RpL.dp k.FH (lay_rows rows) hr, fun ps q hp h2 hq => ?_⟩
      refine po_list p k hq ?_
      rw [← h2]
      exact rpl_of_pairs fun x hx => rpl_pairs hr x (hp.mem_iff.mp hx)
  | _ => exact p.elim
end
theorem kSortR_l (rows : List (List Int)) : kSortR [eL rows] = M.pure (eL (sortR rows)) := by
  have e : rows.map Enc.e = rows.map eR := rfl
  unfold kSortR eL
  dsimp only
  rw [e, rowsOf_map]
  rfl
end DL

/-! try: body, except X as n: suite, the exception kept beyond the suite. -/
namespace DL
open PySem PySem.Spec PyProof.Rows L2
variable [Ec]
section
variable {X : Cx} {pins : List (Addr × Obj)} {σ : L2.St} {H : Hp} {s : Shared}
theorem exN_ok {P : Program} {w : World} {H : Hp} {h : Heap} {a C : Addr} {oe : Obj} {vs : Array Value} (e : h.get? a = some oe) (z : Zc (.ref C) none oe) (d : oe.data = .fields vs) : ObjOk P w H h a (ExN C a) :=
  ⟨⟨oe, vs, e, z.1, z.2, d⟩, ⟨oe, e⟩, fun _ _ ⟨o, v, q, r⟩ k => ⟨o, v, k o q, r⟩⟩
/-- an object that was not there at the entry is tracked from now on -/
theorem Inv_adopt {a : Addr} {φ : Heap → Prop} {oe : Obj} {vs : Array Value} (I : L2.Inv X pins σ H s) (n0 : X.s_0.heap.get? a = none) (he : s.heap.get? a = some oe) (hd : oe.data = .fields vs) (na : H a = none) (nL : a ≠ X.env.locals)
    (np : ∀ p ∈ X.pn ++ pins, p.1 ≠ a) (new : ObjOk X.prog X.w (upd H a (.ext φ)) s.heap a (.ext φ)) : L2.Inv X pins σ (upd H a (.ext φ)) s := by
  have ne0 : ∀ b o, X.s_0.heap.get? b = some o → b ≠ a := fun b o e z => by rw [z, n0] at e; cases e
  refine ⟨I.ok, I.os, I.bare, ⟨I.base.keep, I.base.slot, fun b o e n hx => ?_, I.base.there, fun b xs e => ?_, fun b o u e => ?_, fun b ps e => ?_⟩, I.loc, I.cell, ?_, fun x c e => ?_, fun p hp => ?_, ?_, I.len⟩
  · rw [upd_ne (ne0 b o e)]; exact I.base.free b o e n hx
  · have q := I.base.tups b xs e
    rw [upd_ne (ne_of_none q na)]; exact q
  · have q := I.base.frzs b o u e
    rw [upd_ne (ne_of_none q na)]; exact q
  · obtain ⟨m, q⟩ := I.base.tbls b ps e
    exact ⟨m, by rw [upd_ne (ne_of_none q na)]; exact q⟩
  · rw [upd_ne (Ne.symm nL)]; exact I.free
  · have hc : c ≠ a := fun z => by
      obtain ⟨v, o, ho, hd'⟩ := I.cell x c e
      rw [z, he] at ho
      cases ho
      rw [hd] at hd'
      cases hd'
    rw [upd_ne hc]; exact I.freeC x c e
  · obtain ⟨e, n, r⟩ := I.pin p hp
    exact ⟨e, by rw [upd_ne (np p hp)]; exact n, r⟩
  · exact I.hok.laidN (fun _ _ q => q) na new
theorem Inv_suite0 (I : L2.Inv X pins σ H s) (a : Addr) : L2.Inv (X.suite a (X.pn ++ pins)) [] σ H s :=
  ⟨I.ok.suite _ _, I.os, I.bare, I.base, I.loc, I.cell, I.free, I.freeC, fun p hp => I.pin p (by rw [List.append_nil] at hp; exact hp), I.hok, I.len⟩
theorem Inv_unsuite0 {a : Addr} {pn' : List (Addr × Obj)} (I : L2.Inv (X.suite a (X.pn ++ pins)) pn' σ H s) (ok : X.Ok) : L2.Inv X pins σ H s :=
  ⟨ok, I.os, I.bare, I.base, I.loc, I.cell, I.free, I.freeC, fun p hp => I.pin p (List.mem_append_left _ hp), I.hok, I.len⟩
end
/-- what the clause 'except x as n' wishes of an exception of the body: it is kept, slot i is n's -/
def wOwn (K : PySem.W.Frag) (c : Value) (i : Nat) (ts : TS) (Wout : WX) (D : Ends) : WX := fun cls d σ H =>
  ∃ b C, cls = .ref C ∧ d = none ∧ PySem.W.exmOne K cls c = some b ∧ (b = true → ∀ a, H a = none → ts { nx := fun σ' H' => D.nx (σ'.set i none) H', rt := D.rt, bk := fun σ' H' => D.bk (σ'.set i none) H', ct := fun σ' H' => D.ct (σ'.set i none) H' } (σ.set i (some (.ref a))) (upd H a (ExN C a))) ∧
    (b = false → Wout cls d σ H)
section
variable {X : Cx} {x n : Str} {c : Value} {i : Nat} {body suite : List Stmt} {b₀ : Stmt} {np pos pos' : Pos} {tb : WX → TS} {ts : TS} {Wout : WX}
theorem ps_try_own (hs : X.stack = X.env :: X.outer) (hf : X.env.frame = some X.env.locals) (hx0 : X.ex = []) (hN : X.N.Nodup) (hi : X.N[i]? = some n) (hln : X.env.kindOf n = some .local) (hc : Names X x c) (tk : Takes X Wout)
    (hb : ∀ (W : WX) (pn : List (Addr × Obj)) (xe : Value → Shared → Prop), Takes (X.tr pn xe) W → PassesOwn (model X.prog X.w) X.A X.env xe → PSs (X.tr pn xe) body (tb W))
    (hsu : ∀ (a : Addr) (pn : List (Addr × Obj)), PSs (X.suite a pn) (b₀ :: suite) ts) :
    PS X (.Try body [.ExceptHandler (some (.Name x np)) (some n) (b₀ :: suite) pos'] [] [] pos) (fun D σ H => tb (wOwn X.K c i ts Wout D) D σ H) := by
  refine ⟨fun pins s σ H D I h => ?_⟩
  have ok := I.ok
  have hfr : X.A.frames = some (X.env :: X.outer) := by rw [ok.frames, hs]
  have hloc : Loc X.env.scope n := .inl hln
  refine wpAny_Try_except ?_
  refine wpAny_mono ((hb (wOwn X.K c i ts Wout D) (X.pn ++ pins) (fun e s₁ => wpAny (model X.prog X.w) X.A (noteFrame e X.env) (fun _ s₂ => wpAny (model X.prog X.w) X.A (setFlight e none) (fun _ s₃ =>
    wpAny (model X.prog X.w) X.A (handleBy e X.env [.ExceptHandler (some (.Name x np)) (some n) (b₀ :: suite) pos']) (SP X pins D) X.xe s₃) X.xe s₂) X.xe s₁) (fun u s' xx => ?_) PassesOwn.looking).run [] s σ H D (I.toTry _) h) (fun f s1 hsp => ?_) (fun e s1 he => he)
  · -- the catch
    obtain ⟨a, B, sI, pins', σ', H', cls, d, rfl, J', nb, up, sky, na, os, ag, b, C, rfl, rfl, hb1, hyes, hno⟩ := xx
    have J : L2.Inv X pins σ' H' sI := J'.ofTry ok
    have sky' : Sky B (X.env :: X.outer) a (Zc (.ref C) none) X.env.locals s'.heap := by rw [← hs]; exact sky
    show wpAny (model X.prog X.w) X.A (noteFrame (.ref a) X.env) _ _ _
    refine Sky.land Zc.steady hfr hf sky' fun h3 fl3 up3 => ?_
    have J3 : L2.Inv X pins σ' H' { s' with heap := h3 } := J.landed nb fl3.1 (up.trans up3) os ag
    obtain ⟨oe3, vs3, he3, hz3, hd3⟩ := fl3.there
    have notFr : ∀ {h : Heap} {o : Obj} {vs : Array Value}, h.FunFrames B (X.env :: X.outer) → h.get? a = some o → o.data = .fields vs → a ∉ frs (X.env :: X.outer) := fun {h o vs} ff e dd hm => by
      obtain ⟨_, o', e', hnf⟩ := ff.mem hm
      rw [e] at e'; cases e'
      exact hnf _ dd
    have nfr := notFr fl3.2.2.1 he3 hd3
    have nL : a ≠ X.env.locals := fun z => nfr (List.mem_filterMap.mpr ⟨X.env, List.mem_cons_self, by rw [hf, z]⟩)
    have nF : a ∉ X.fs := fun hm => by
      obtain ⟨e, he, q⟩ := List.mem_filterMap.mp hm
      exact nfr (List.mem_filterMap.mpr ⟨e, List.mem_cons_of_mem _ he, q⟩)
    have nI : sI.heap.get? a = none := by
      cases q : sI.heap.get? a with
      | none => rfl
      | some o =>
        have := nb a o q (by rw [hs]; exact nfr)
        rw [fl3.2.1] at this
        cases this
    have n0 : X.s_0.heap.get? a = none := by
      cases q : X.s_0.heap.get? a with
      | none => rfl
      | some o =>
        obtain ⟨o', e⟩ := J.base.there a o q (by rw [hx0]; exact fun z => nomatch z)
        rw [nI] at e
        cases e
    have npn : ∀ p ∈ X.pn ++ pins, p.1 ≠ a := fun p hp z => by
      have := (J.pin p hp).1
      rw [z, nI] at this
      cases this
    have S3 := J3.suite he3 hd3 na nL nF
    refine wpAny_handleBy_cons (codeAny_handlers_test ?_) (by intro q; cases q)
    have LT : PySem.W.Looks (model X.prog X.w) h3 (typeOf (.ref a)) (.ref C) := fun A Q E s k q => wpAny_typeOf_ref (k _ _ he3) (by rw [hz3.1]; exact q)
    have LM := PySem.W.exm_one (M := model X.prog X.w) (J3.kIn) LT hb1
    have test : ∀ {Q : Value → Shared → Prop} {E : Value → Shared → Prop}, Q c { s' with heap := h3 } → wpAny (model X.prog X.w) (X.A.mark (some (.ref a))) (eval (.Name x np) X.env) Q E { s' with heap := h3 } := fun {Q E} q => by
      obtain ⟨hg, hdbg, hm | ⟨hm, hv, hnn⟩⟩ := hc
      · exact ld_glob (X := X.suite a ((a, oe3) :: (X.pn ++ pins))) S3 hg hm q hdbg
      · exact ld_blt (X := X.suite a ((a, oe3) :: (X.pn ++ pins))) S3 hg hm hv q hnn hdbg
    refine test (LM.here ?_)
    cases b with
    | true =>
      refine codeAny_handlers_suite_as ?_
      refine HandSPX.lands_againZ fl3 fun h4 fl4 up4 => ?_
      have J4 : L2.Inv X pins σ' H' { s' with heap := h4 } := J.landed nb fl4.1 ((up.trans up3).trans up4) os ag
      obtain ⟨oe4, vs4, he4, hz4, hd4⟩ := fl4.there
      have J5 : L2.Inv X pins σ' (upd H' a (ExN C a)) { s' with heap := h4 } := Inv_adopt J4 n0 he4 hd4 na nL npn (exN_ok he4 hz4 hd4)
      have S4 := Inv_suite0 J5 a
      refine store_ok (X := X.suite a (X.pn ++ pins)) (v := .ref a) S4 hN hi hloc rfl (fun s5 S5 => ?_) (.inr hln)
      refine wpAny_mono ((hsu a (X.pn ++ pins)).run [] s5 _ _ _ S5 (hyes rfl a na)) (fun f s6 hsp => ?_) (fun _ _ z => False.elim z)
      have end_ : ∀ {σ6 : L2.St} {H6 : Hp} {Q : Shared → Prop}, L2.Inv (X.suite a (X.pn ++ pins)) [] σ6 H6 s6 → (∀ s7, L2.Inv X pins (σ6.set i none) H6 s7 → Q s7) →
          wpAny (model X.prog X.w) X.A (do bindName X.env n .none; unbindBehindTheSuite X.env n pos') (fun _ s7 => Q s7) X.xe s6 := fun {σ6 H6 Q} S6 hq => gone_ok (Inv_unsuite0 S6 ok) hN hi hln hq
      cases f with
      | next =>
        obtain ⟨σ6, H6, S6, q6⟩ := hsp
        exact end_ S6 fun s7 J7 => ⟨_, _, J7, q6⟩
      | brk =>
        obtain ⟨σ6, H6, S6, q6⟩ := hsp
        exact end_ S6 fun s7 J7 => ⟨_, _, J7, q6⟩
      | cont =>
        obtain ⟨σ6, H6, S6, q6⟩ := hsp
        exact end_ S6 fun s7 J7 => ⟨_, _, J7, q6⟩
      | ret u =>
        obtain ⟨v6, σ6, H6, S6, r6, q6⟩ := hsp
        exact end_ S6 fun s7 J7 => ⟨_, _, _, J7, r6, q6⟩
    | false =>
      show wpAny _ X.A (handleBy (.ref a) X.env []) _ _ _
      refine wpAny_handleBy_nil ?_
      obtain ⟨k1, k2, k3, oe, vs, T, oT, ts', he, hz, hd, h1, hr⟩ := id fl3
      unfold PySem.passOn
      refine wpAny_bind (wpAny_field he hd h1 ?_)
      rw [if_neg (show ¬ ((Value.ref T == Value.none) = true) from by simp)]
      have fin : wpAny (model X.prog X.w) X.A (setFlight (.ref a) X.env.frame) (fun _ s4 => wpAny (model X.prog X.w) X.A (throw (.ref a) : Sem Flow) (SP X pins D) X.xe s4) X.xe { s' with heap := h3 } := by
        rw [hf]
        refine HandSPX.setFlight_upZ fl3 fun h4 hh4 up4 => wpAny_throw (tk _ _ ?_)
        exact ⟨a, B, sI, pins, σ', H', .ref C, none, rfl, J, nb, (up.trans up3).trans up4, .inr (.inr (by rw [hs]; exact hh4)), na, os, ag, hno rfl⟩
      first
        | exact wpAny_bind (wpAny_pure (wpAny_bind fin))
        | exact wpAny_bind fin
  · cases f with
    | next =>
      obtain ⟨σ', H', J', q⟩ := hsp
      exact wpAny_execs_nil ⟨σ', H', J'.ofTry ok, q⟩
    | brk =>
      obtain ⟨σ', H', J', q⟩ := hsp
      exact ⟨σ', H', J'.ofTry ok, q⟩
    | cont =>
      obtain ⟨σ', H', J', q⟩ := hsp
      exact ⟨σ', H', J'.ofTry ok, q⟩
    | ret u =>
      obtain ⟨v, σ', H', J', r, q⟩ := hsp
      exact ⟨v, σ', H', J'.ofTry ok, r, q⟩
/-- isinstance(e, c), e an exception that is kept -/
def rIsN (K : PySem.W.Frag) : List V → Hp → VK → Prop := fun xs H Q => ∃ (a D : Addr) (c : V) (cv : Value) (b : Bool), xs = [.ref a, c] ∧ H a = some (ExN D a) ∧ ExcC K D ∧ (∀ u, RelV c u → u = cv) ∧ PySem.W.kitOne K (.ref D) cv = some b ∧ Q (.bl b) H
theorem call_isN : CallR X (.builtin "isinstance") (rIsN X.K) := by
  intro pins s σ H xs us Q I r h
  obtain ⟨a, D, c, cv, b, rfl, ha, C, hcv, e, q⟩ := h
  cases r with
  | cons rx rr =>
    cases rr with
    | cons rt rr =>
      cases rr
      cases rx
      have ec := hcv _ rt
      subst ec
      obtain ⟨⟨oe, vs, hget, h1, h2, hv⟩, _⟩ := (show ObjOk X.prog X.w H s.heap a (ExN D a) from I.hok a _ ha)
      have J : PySem.W.InstAt s.heap a oe D none := by
        obtain ⟨oc, od, oda, osl⟩ := oe
        dsimp only at h1 h2 hv
        subst h1 h2 hv
        exact ⟨hget, rfl, rfl, trivial⟩
      exact PySem.W.kia_one (PySem.W.handS_kitx_exc C.hg C.hk C.hs C.hd C.ha C.hn C.ht C.hm) I.kIn J e (fun z => nomatch z) fun tk => ⟨.bl b, H, I.kept (t' := tk) fun _ _ z => z, rfl, q⟩
end
end DL

/-! Mirrors of try and of isinstance of a kept exception. -/
namespace DL
open PySem PySem.Spec PyProof.Rows L2
def tryS (i : Nat) (r : SR) : SR := match r with
  | .nx ρ w => .nx (ρ.set i .un) w
  | .bk ρ w => .bk (ρ.set i .un) w
  | .ct ρ w => .ct (ρ.set i .un) w
  | .ret d w => .ret d w
  | _ => .bad
def sTry (i : Nat) (cs : List Str) (f h : Sm) : Sm := fun ρ w => match f ρ w with
  | .err c ρ1 w1 => if cs.contains c then tryS i (h (ρ1.set i (.d (exD c))) w1) else .bad
  | r => r
def tryO (r : SR) : SR := match r with
  | .err _ _ _ => .bad
  | r => r
def sTryO (cs : List Str) (f h : Sm) : Sm := fun ρ w => match f ρ w with
  | .err c ρ1 w1 => if cs.contains c then tryO (h ρ1 w1) else .bad
  | r => r
theorem pus_try {i : Nat} {cs : List Str} {f h : Sm} (hf : PuS f) (hh : PuS h) : PuS (sTry i cs f h) := by
  intro ρ w
  unfold sTry
  rw [hf ρ w]
  cases f ρ [] with
  | err c ρ1 w1 =>
    show (if cs.contains c then tryS i (h (ρ1.set i (.d (exD c))) w) else .bad) = lfS (if cs.contains c then tryS i (h (ρ1.set i (.d (exD c))) w1) else .bad) w
    split
    · rw [hh _ w, hh _ w1]
      cases h (ρ1.set i (.d (exD c))) [] <;> rfl
    · rfl
  | _ => rfl
theorem pus_tryO {cs : List Str} {f h : Sm} (hf : PuS f) (hh : PuS h) : PuS (sTryO cs f h) := by
  intro ρ w
  unfold sTryO
  rw [hf ρ w]
  cases f ρ [] with
  | err c ρ1 w1 =>
    show (if cs.contains c then tryO (h ρ1 w) else .bad) = lfS (if cs.contains c then tryO (h ρ1 w1) else .bad) w
    split
    · rw [hh _ w, hh _ w1]
      cases h ρ1 [] <;> rfl
    · rfl
  | _ => rfl
def subE (c x : Str) : Bool := decide (c = x) || decide (x = "GroupError") || decide (x = "ValueError")
/-- the program's own errors -/
def errs : List Str := ["BadGrouping", "BadNumber", "BadPairs", "BadText", "NotFound"]
def kIsE (x : Str) : D → M D
  | .dict [(.str c, .none)] => chk (errs.contains c) (M.pure (.bool (subE c x)))
  | _ => M.bad
theorem pu_kIsE (x : Str) : ∀ d, Pu (kIsE x d) := by
  intro d
  unfold kIsE
  split
  · exact pu_chk pu_pure
  · exact pu_bad
section
variable [Ec] {κ : Kn} {W : WX} {X : Cx}
theorem contains_mem {cs : List Str} {c : Str} (h : cs.contains c = true) : c ∈ cs := by simpa using h
theorem ds_try {x n : Str} {cv : Value} {i : Nat} {body suite : List Stmt} {b₀ : Stmt} {np pos pos' : Pos} {f h : Sm} {cs : List Str} (hs : X.stack = X.env :: X.outer) (hf : X.env.frame = some X.env.locals) (hx0 : X.ex = []) (hN : X.N.Nodup) (hi : X.N[i]? = some n) (hln : X.env.kindOf n = some .local) (hc : Names X x cv) (tk : Takes X W)
    (hcs : ∀ c ∈ cs, PySem.W.exmOne X.K (.ref (Ec.ec c)) cv = some true)
    (hb : ∀ (W : WX) (pn : List (Addr × Obj)) (xe : Value → Shared → Prop), Takes (X.tr pn xe) W → PassesOwn (model X.prog X.w) X.A X.env xe → DSs κ W (X.tr pn xe) body f)
    (hsu : ∀ (a : Addr) (pn : List (Addr × Obj)), DSs κ (fun _ _ _ _ => False) (X.suite a pn) (b₀ :: suite) h) :
    DS κ W X (.Try body [.ExceptHandler (some (.Name x np)) (some n) (b₀ :: suite) pos'] [] [] pos) (sTry i cs f h) :=
  PS.weak (ps_try_own hs hf hx0 hN hi hln hc tk hb hsu) fun E σ H ⟨g0, F0, H0, g, F, own, ρ, w, s, p⟩ => by
    refine ⟨g0, F0, H0, g, F, own, ρ, w, s, ?_⟩
    unfold sTry at p
    cases hr : f ρ w with
    | err c ρ1 w1 =>
      rw [hr] at p
      dsimp only at p
      cases hcc : cs.contains c with
      | false => rw [hcc] at p; exact p.elim
      | true =>
        rw [hcc] at p
        intro g1 F1 own1 σ1 H1 s1
        refine ⟨true, Ec.ec c, rfl, rfl, hcs c (contains_mem hcc), fun _ a ha => ?_, fun z => nomatch z⟩
        have hFa := (s1.lr.wk.fresh ha).2
        have s2 := (s1.ext (Ext.new (o := ExN (Ec.ec c) a) ha hFa) (s1.lr.wk.new ha)).setD (i := i) (v := .ref a) (d := exD c) (.exc upd_same)
        refine ⟨g0, F0, H0, g1, _, own1, _, w1, s2, ?_⟩
        rw [if_pos rfl] at p
        cases hr2 : h (ρ1.set i (.d (exD c))) w1 with
        | nx ρ2 w2 => rw [hr2] at p; exact fun g F own σ H s => p g F own _ H s.setU
        | bk ρ2 w2 => rw [hr2] at p; exact fun g F own σ H s => p g F own _ H s.setU
        | ct ρ2 w2 => rw [hr2] at p; exact fun g F own σ H s => p g F own _ H s.setU
        | ret d w2 => rw [hr2] at p; exact p
        | err c2 ρ2 w2 => rw [hr2] at p; exact p.elim
        | bad => rw [hr2] at p; exact p.elim
    | nx ρ1 w1 => rw [hr] at p; exact p
    | bk ρ1 w1 => rw [hr] at p; exact p
    | ct ρ1 w1 => rw [hr] at p; exact p
    | ret d w1 => rw [hr] at p; exact p
    | bad => rw [hr] at p; exact p.elim
theorem ds_tryO {x : Str} {cv : Value} {body suite : List Stmt} {b₀ : Stmt} {np pos pos' : Pos} {f h : Sm} {cs : List Str} (hs : X.stack = X.env :: X.outer) (hf : X.env.frame = some X.env.locals) (hc : Names X x cv) (tk : Takes X W)
    (hcs : ∀ c ∈ cs, PySem.W.exmOne X.K (.ref (Ec.ec c)) cv = some true)
    (hb : ∀ (W : WX) (pn : List (Addr × Obj)) (xe : Value → Shared → Prop), Takes (X.tr pn xe) W → PassesOwn (model X.prog X.w) X.A X.env xe → DSs κ W (X.tr pn xe) body f)
    (hsu : ∀ (a : Addr) (pn : List (Addr × Obj)), DSs κ (fun _ _ _ _ => False) (X.suite a pn) (b₀ :: suite) h) :
    DS κ W X (.Try body [.ExceptHandler (some (.Name x np)) none (b₀ :: suite) pos'] [] [] pos) (sTryO cs f h) :=
  PS.weak (ps_try_only (ts := fun _ _ _ => tS κ (fun _ _ _ _ => False) h) hs hf hc tk hb (fun a oe cls d pn _ _ => hsu a ((a, oe) :: pn))) fun E σ H ⟨g0, F0, H0, g, F, own, ρ, w, s, p⟩ => by
    refine ⟨g0, F0, H0, g, F, own, ρ, w, s, ?_⟩
    unfold sTryO at p
    cases hr : f ρ w with
    | err c ρ1 w1 =>
      rw [hr] at p
      dsimp only at p
      cases hcc : cs.contains c with
      | false => rw [hcc] at p; exact p.elim
      | true =>
        rw [hcc] at p
        intro g1 F1 own1 σ1 H1 s1
        refine ⟨true, hcs c (contains_mem hcc), fun _ a ha => ?_, fun z => nomatch z⟩
        refine ⟨g0, F0, H0, g1, F1, own1, ρ1, w1, s1, ?_⟩
        rw [if_pos rfl] at p
        cases hr2 : h ρ1 w1 with
        | err c2 ρ2 w2 => rw [hr2] at p; exact p.elim
        | bad => rw [hr2] at p; exact p.elim
        | _ => rw [hr2] at p; exact p
    | nx ρ1 w1 => rw [hr] at p; exact p
    | bk ρ1 w1 => rw [hr] at p; exact p
    | ct ρ1 w1 => rw [hr] at p; exact p
    | ret d w1 => rw [hr] at p; exact p
    | bad => rw [hr] at p; exact p.elim
theorem Rp.excInv {g : List Addr} {F : Hp} {v : V} {d : D} {c : Str} (h : Rp g F v d) (e : d = exD c) : ∃ a, v = .ref a ∧ F a = some (ExN (Ec.ec c) a) := by
  cases h with
  | @exc c' a hF =>
    have : c' = c := by
      unfold exD at e
      injection e with e
      injection e with e _
      injection e with e _
      injection e
    subst this
    exact ⟨a, rfl, hF⟩
  | hn _ => unfold hnd exD at e; injection e with e; injection e with e _; injection e with e _; injection e
  | _ => unfold exD at e; cases e
/-- the errors' classes for isinstance -/
structure Eks (K : PySem.W.Frag) (x : Str) (cv : Value) : Prop where
  ex : ∀ c ∈ errs, ExcC K (Ec.ec c)
  ki : ∀ c ∈ errs, PySem.W.kitOne K (.ref (Ec.ec c)) cv = some (subE c x)
theorem k_isE {x : Str} {cv : Value} {c : V} (hcv : ∀ u, RelV c u → u = cv) (E : Eks X.K x cv) {σ : L2.St} {g : List Addr} {F H H0 : Hp} {w : W'} {v : V} {d : D} {Q : VK} (k : Wk κ g F w H) (hv : RV g F H0 H v d)
    (p : Po κ W g F H σ (kIsE x d w) fun d g' F' _ H' => ∀ v, RD g' F' H H' v d → Q v H') : rIsN X.K [v, c] H Q := by
  unfold kIsE at p
  split at p
  · rename_i c'
    obtain ⟨hc, p⟩ := po_chk p
    have hm := contains_mem hc
    rcases hv with hv | ⟨a, vs, ds, _, e, _⟩
    · obtain ⟨a, rfl, hF⟩ := Rp.excInv (c := c') hv rfl
      exact ⟨a, Ec.ec c', c, cv, _, rfl, k.FH _ _ hF, E.ex c' hm, hcv, E.ki c' hm, po_ok p k _ (.bl _)⟩
    · cases e
  · exact p.elim
/-- isinstance(e, C), C an own class -/
theorem de_isE {x : Str} {C : Addr} {a : Expr} {fa : DL.X D} {p p2 pos : Pos} (E : Eks X.K x (.ref C)) (ha : DE κ W X RV a fa) (hg : Gl X "isinstance") (hm : X.mg "isinstance" = none) (hgT : Gl X x) (hmT : X.mg x = some (.ref C)) (hdT : (x == ("__debug__" : Str)) = false := by decide)
    (he : starEach [a, .Name x p2] X.env = (false, eval a X.env) :: starEach [.Name x p2] X.env := by rfl) (hpl : (backTo pos (starEach [.Name x p2] X.env)).any (·.1) = false := by rfl) (hb : bootBuiltins "isinstance" = some (.builtin "isinstance") := by decide +kernel) :
    DE κ W X RD (.Call (.Name "isinstance" p) [a, .Name x p2] [] pos) (x1 (kIsE x) fa) :=
  PE.weak (pe_callB call_isN hg hm hb (pa_cons ha (pa_cons (pe_glob (v := .ref C) hgT hmT rfl hdT) pa_nil) he) (by decide) (by decide) he hpl) fun σ H Q ⟨g, F, own, ρ, w, lr, p⟩ => by
    refine ⟨g, F, own, ρ, w, lr, (po_bind p).mono fun d g1 F1 w1 H1 e1 k1 p1 v hv => ?_⟩
    exact k_isE (c := .ref C) (fun u r => r) E k1 hv (p1 e1)
/-- isinstance(e, T), T a built-in class -/
theorem de_isEB {T : String} {x : Str} {a : Expr} {fa : DL.X D} {p p2 pos : Pos} (E : Eks X.K x (.type T)) (ha : DE κ W X RV a fa) (hg : Gl X "isinstance") (hm : X.mg "isinstance" = none) (hgT : Gl X x) (hmT : X.mg x = none) (hvT : bootBuiltins x = some (.type T)) (hn : x ≠ "__name__" := by decide) (hdT : (x == ("__debug__" : Str)) = false := by decide)
    (he : starEach [a, .Name x p2] X.env = (false, eval a X.env) :: starEach [.Name x p2] X.env := by rfl) (hpl : (backTo pos (starEach [.Name x p2] X.env)).any (·.1) = false := by rfl) (hb : bootBuiltins "isinstance" = some (.builtin "isinstance") := by decide +kernel) :
    DE κ W X RD (.Call (.Name "isinstance" p) [a, .Name x p2] [] pos) (x1 (kIsE x) fa) :=
  PE.weak (pe_callB call_isN hg hm hb (pa_cons ha (pa_cons (pe_bltn (v := .ty T) hgT hmT hvT rfl hn hdT) pa_nil) he) (by decide) (by decide) he hpl) fun σ H Q ⟨g, F, own, ρ, w, lr, p⟩ => by
    refine ⟨g, F, own, ρ, w, lr, (po_bind p).mono fun d g1 F1 w1 H1 e1 k1 p1 v hv => ?_⟩
    exact k_isE (c := .ty T) (fun u r => r) E k1 hv (p1 e1)
end
end DL

/-! list.count of bools. -/
namespace DL
open PySem PySem.Spec PyProof.Rows L2
def eqb (k : Bool) (v : Value) : Bool := match v with
  | .bool n => n == k
  | _ => false
def BlsAre : List Value → List Bool → Prop := Paired fun v b => v = .bool b
theorem bls_of_vals : ∀ {us : List Value} {bs : List Bool}, Vals (bs.map V.bl) us → us = bs.map Value.bool
  | us, [], h => by cases h; rfl
  | us, b :: bs, h => by
    cases h with
    | cons h1 h2 =>
      cases h1
      rw [bls_of_vals h2]
      rfl
theorem eqb_count {k : Bool} : ∀ (bs : List Bool), (bs.map Value.bool).countP (eqb k) = bs.count k
  | [] => rfl
  | b :: bs => by
    rw [List.map_cons, List.countP_cons, List.count_cons, eqb_count bs]
    rfl
section
variable {X : Cx}
def rCntB (K : PySem.W.Frag) : V → List V → Hp → VK → Prop := fun x xs H Q => ∃ (p : Addr) (bs : List Bool) (k : Bool), x = .ref p ∧ xs = [.bl k] ∧ SqL K H p (bs.map V.bl) ∧ Q (.int (bs.count k : Nat)) H
theorem mt_bcount : MtR X "list.count" (rCntB X.K) := by
  intro pins s σ H x xs v us Q I rx rxs h
  obtain ⟨p, bs, k, rfl, rfl, hs, q⟩ := h
  cases rx
  obtain ⟨u, rfl, ru⟩ := rxs.one
  cases ru
  obtain ⟨its, rv, ⟨⟨cls, dd, data, sl⟩, n, ho, hc, hdn, hd⟩, hlen⟩ := I.list hs
  simp only at hc hd
  subst hc hd
  have hi := bls_of_vals rv
  refine call_meets PySem.F.slot_list_count ⟨_, ho, rfl⟩ PySem.F.entry_list_count (PySem.F.args_list_count_2 _ _)
    (SeqAt.list_countAt p its.toArray n dd sl (.bool k) (eqb k)) ⟨ho, fun y hy => ?_, ?_⟩
  · have hy' : y ∈ its := by simpa using hy
    rw [hi] at hy'
    obtain ⟨b, _, rfl⟩ := List.mem_map.mp hy'
    exact SeqAt.EqAt.bool_bool b k
  · have ec : its.toArray.toList.countP (eqb k) = bs.count k := by
      show its.countP (eqb k) = _
      rw [hi]
      exact eqb_count bs
    refine ⟨.int (bs.count k : Nat), H, I.tok _, ⟨s.toks, ?_⟩, q⟩
    show Value.int ((its.toArray.toList.countP (eqb k) : Nat) : Int) s.toks = Value.int ((bs.count k : Nat) : Int) s.toks
    rw [ec]
end
def onBls {α : Type} (d : D) (f : List Bool → M α) : M α := match d with
  | .list ds => match blsOf ds with
    | some ns => f ns
    | none => M.bad
  | _ => M.bad
def kCountB : D → List D → M D
  | d, [.bool i] => onBls d fun ns => M.pure (.int (ns.count i : Nat))
  | _, _ => M.bad
theorem pu_kCountB : ∀ d ds, Pu (kCountB d ds) := by
  intro d ds
  unfold kCountB
  split
  · unfold onBls
    split
    · split
      · exact pu_pure
      · exact pu_bad
    · exact pu_bad
  · exact pu_bad
section
variable [Ec] {κ : Kn} {W : WX} {K : PySem.W.Frag}
theorem k_countB : OpM κ W K [RV] RD "list" (rCntB K) kCountB := ⟨fun g F w H0 H v d k h e => tyv_list k h e, fun g F w H0 H1 H σ v d vs ds Q k hv he hvs p => by
  obtain ⟨y, x, rfl, rfl, hx⟩ := rpr1 hvs
  cases x with
  | bool i =>
    unfold kCountB onBls at p
    cases d with
    | list ds =>
      dsimp only at p
      cases e : blsOf ds with
      | none => rw [e] at p; exact p.elim
      | some bs =>
        rw [e] at p
        have e2 := blsOf_eq e
        subst e2
        obtain ⟨a, us, rfl, ha, hr⟩ := RV.list hv k
        have e3 := hr.bls
        subst e3
        rw [hx.bl]
        exact ⟨a, bs, i, rfl, rfl, SqL.of ha, po_fz p k (.int _)⟩
    | _ => exact p.elim
  | _ => exact p.elim⟩
end
end DL

/-! What a text's top must say of the errors. -/
namespace DL
open PySem PySem.Spec PyProof.Rows L2
section
variable {K : PySem.W.Frag} {D C : Addr} {b : Bool}
theorem kit_own (h1 : PySem.W.isClsIn K C = true) (h2 : PySem.W.typeIn K (.ref C) = some (.type "type")) (hs : PySem.W.subIn K (.ref C) (.ref C) = some true) (h3 : PySem.W.subIn K (.ref D) (.ref C) = some b) : PySem.W.kitOne K (.ref D) (.ref C) = some b := by
  unfold PySem.W.kitOne
  by_cases e : D = C
  · subst e
    rw [h3] at hs
    rw [if_pos (by simp), hs]
  · have hc : (PySem.W.clsIn K C).isSome = true := h1
    have e2 : ((PySem.W.clsIn K C).isSome && PySem.W.typeIn K (.ref C) == some (.type "type")) = true := by rw [hc, h2] <;> rfl
    rw [if_neg (by simp [e])]
    show (if ((PySem.W.clsIn K C).isSome && PySem.W.typeIn K (.ref C) == some (.type "type")) = true then PySem.W.subIn K (.ref D) (.ref C) else none) = some b
    rw [if_pos e2]
    exact h3
theorem kit_blt {T : String} (hm : PySem.W.kitMeta T = true) (h3 : PySem.W.subIn K (.ref D) (.type T) = some b) : PySem.W.kitOne K (.ref D) (.type T) = some b := by
  unfold PySem.W.kitOne
  rw [if_neg (by simp)]
  show (if PySem.W.kitMeta T = true then PySem.W.subIn K (.ref D) (.type T) else none) = some b
  rw [if_pos hm]
  exact h3
theorem exm_own {cls : Value} (h0 : PySem.W.subIn K (.ref C) (.type "BaseException") = some true) (h1 : PySem.W.isClsIn K C = true) (h2 : PySem.W.typeIn K (.ref C) = some (.type "type")) (h4 : PySem.W.subIn K cls (.ref C) = some b) : PySem.W.exmOne K cls (.ref C) = some b := by
  have hc : (PySem.W.clsIn K C).isSome = true := h1
  have e1 : (PySem.W.subIn K (.ref C) (.type "BaseException") == some true) = true := by rw [h0] <;> rfl
  have e2 : ((PySem.W.clsIn K C).isSome && PySem.W.typeIn K (.ref C) == some (.type "type")) = true := by rw [hc, h2] <;> rfl
  show (if (PySem.W.subIn K (.ref C) (.type "BaseException") == some true) = true then (if ((PySem.W.clsIn K C).isSome && PySem.W.typeIn K (.ref C) == some (.type "type")) = true then PySem.W.subIn K cls (.ref C) else none) else none) = some b
  rw [if_pos e1, if_pos e2]
  exact h4
end
section
variable [Ec]
def TryF (K : PySem.W.Frag) (mg : Str → Option Value) (x : Str) : Prop := ∃ C, mg x = some (.ref C) ∧ ∀ c ∈ errs, PySem.W.exmOne K (.ref (Ec.ec c)) (.ref C) = some true
def IsF (K : PySem.W.Frag) (mg : Str → Option Value) (x : Str) : Prop := ∃ C, mg x = some (.ref C) ∧ Eks K x (.ref C)
def IsB (K : PySem.W.Frag) (mg : Str → Option Value) (x : Str) (T : String) : Prop := mg x = none ∧ Eks K x (.type T)
theorem errs_all {P : Str → Prop} (h1 : P "BadGrouping") (h2 : P "BadNumber") (h3 : P "BadPairs") (h4 : P "BadText") (h5 : P "NotFound") : ∀ c ∈ errs, P c := by
  intro c hc
  simp only [errs, List.mem_cons, List.not_mem_nil, or_false] at hc
  rcases hc with rfl | rfl | rfl | rfl | rfl
  · exact h1
  · exact h2
  · exact h3
  · exact h4
  · exact h5
variable {X : Cx}
theorem names_of {x : Str} {C : Addr} (hg : Gl X x) (h : X.mg x = some (.ref C)) (hd : (x == ("__debug__" : Str)) = false := by decide) : Names X x (.ref C) := ⟨hg, hd, .inl h⟩
end
end DL

/-! a, b, .. = a list. -/
namespace DL
open PySem PySem.Spec PyProof.Rows L2
def unpS (is : List Nat) (ρ : List Slot) : D → W' → SR
  | .list ds => fun w => if ds.length = is.length then .nx (setAll ρ is (ds.map .d)) w else .bad
  | _ => fun _ => .bad
def sUnp (is : List Nat) (fe : DL.X D) : Sm := fun ρ w => (fe ρ w).to ρ (unpS is ρ)
theorem pus_unp {is : List Nat} {fe : DL.X D} (h : PuX fe) : PuS (sUnp is fe) := fun ρ => pus_to (h ρ) fun a w => by
  cases a with
  | list ds =>
    show (if ds.length = is.length then SR.nx _ w else .bad) = lfS (if ds.length = is.length then SR.nx _ [] else .bad) w
    split <;> rfl
  | _ => rfl
section
variable [Ec] {κ : Kn} {W : WX} {X : Cx}
theorem ds_unp {es : List Expr} {is : List Nat} {k : Nat} {pt pos : Pos} {e : Expr} {fe : DL.X D} (hc : X.calm = true) (he : DE κ W X RD e fe) (h : DGs X es is) (hn : (assignEach es X.env).length = is.length := by rfl) (hst : (assignEach es X.env).findIdx? (·.1) = none := by rfl)
    (hs : swapsWithSole [.Tuple es k pt] e pos.line X.env = pure false := by rfl) (hw : swappedStores [.Tuple es k pt] e X.env = pure none := by rfl)
    (h1 : (assignEach [.Tuple es k pt] X.env).map (·.2) = [assign (.Tuple es k pt) X.env] := by rfl) : DS κ W X (.Assign [.Tuple es k pt] e pos) (sUnp is fe) :=
  PS.weak (ps_asg he (pg_lst hc h hn hst) hs hw h1) fun E σ H ⟨g0, F0, H0, g, F, own, ρ, w, s, p⟩ => by
    refine ⟨g, F, own, ρ, w, s.lr, (po_to s p).mono fun d g1 F1 w1 H1 e1 k1 p1 v hv => ?_⟩
    have p2 := p1 e1
    have s1 := s.ext e1 k1
    cases d with
    | list ds =>
      cases hv with
      | lst hF hr =>
        rename_i a vs
        by_cases hl : ds.length = is.length
        · have p3 : PoS κ W g0 F0 H0 E (.nx (setAll ρ is (ds.map .d)) w1) := by
            have := p2
            unfold unpS at this
            dsimp only at this
            rw [if_pos hl] at this
            exact this
          refine ⟨a, vs, rfl, SqL.of (k1.FH _ _ hF), by rw [hr.length]; exact hl, by rw [hr.length]; exact hl, ?_⟩
          exact p3 g1 F1 own _ H1 ⟨Lr.setAll is s1.lr hr, s1.ex, fun j xs ej m => s1.ow j xs (own_back is ds ρ j xs ej m) m⟩
        · have := p2
          unfold unpS at this
          dsimp only at this
          rw [if_neg hl] at this
          exact this.elim
    | _ => exact p2.elim
end
@[simp] theorem v_sUnp {is : List Nat} {fe : DL.X D} {ρ : List Slot} : sUnp is fe ρ = bindS (fe ρ) ρ (unpS is ρ) := nr rfl
theorem v_unpS {is : List Nat} {ρ : List Slot} {ds : List D} (h : ds.length = is.length) : unpS is ρ (.list ds) = S.nx (setAll ρ is (ds.map .d)) := by
  funext w
  unfold unpS
  dsimp only
  rw [if_pos h]
  rfl
end DL

set_option maxHeartbeats 3200000
/-! sorted(set(e)) and len(set(e)) of a list of ints. -/
namespace DL
open PySem PySem.Spec PyProof.Rows L2
/-- each once -/
def dedI : List Int → List Int
  | [] => []
  | x :: r => if x ∈ dedI r then dedI r else x :: dedI r
theorem dedI_mem {k : Int} : ∀ {ns : List Int}, k ∈ dedI ns ↔ k ∈ ns
  | [] => Iff.rfl
  | x :: r => by
    have ih := dedI_mem (k := k) (ns := r)
    unfold dedI
    by_cases h : x ∈ dedI r
    · rw [if_pos h, ih, List.mem_cons]
      refine ⟨.inr, fun q => q.elim (fun e => ?_) id⟩
      rw [e]
      exact dedI_mem.mp h
    · rw [if_neg h, List.mem_cons, List.mem_cons, ih]
theorem dedI_nodup : ∀ ns : List Int, (dedI ns).Nodup
  | [] => .nil
  | x :: r => by
    unfold dedI
    by_cases h : x ∈ dedI r
    · rw [if_pos h]; exact dedI_nodup r
    · rw [if_neg h]; exact List.nodup_cons.mpr ⟨h, dedI_nodup r⟩
theorem dedI_id : ∀ {ns : List Int}, ns.Nodup → dedI ns = ns
  | [], _ => rfl
  | x :: r, h => by
    obtain ⟨h1, h2⟩ := List.nodup_cons.mp h
    unfold dedI
    rw [dedI_id h2, if_neg h1]
/-- rising, with the same members -/
theorem rising_uniq : ∀ {a b : List Int}, a.Pairwise (· < ·) → b.Pairwise (· < ·) → (∀ k, k ∈ a ↔ k ∈ b) → a = b
  | [], [], _, _, _ => rfl
  | [], y :: b, _, _, h => absurd ((h y).mpr List.mem_cons_self) (by simp)
  | x :: a, [], _, _, h => absurd ((h x).mp List.mem_cons_self) (by simp)
  | x :: a, y :: b, ha, hb, h => by
    obtain ⟨a1, a2⟩ := List.pairwise_cons.mp ha
    obtain ⟨b1, b2⟩ := List.pairwise_cons.mp hb
    have e : x = y := by
      rcases List.mem_cons.mp ((h x).mp List.mem_cons_self) with q | q
      · exact q
      · rcases List.mem_cons.mp ((h y).mpr List.mem_cons_self) with q2 | q2
        · exact q2.symm
        · have := b1 x q; have := a1 y q2; omega
    subst e
    rw [rising_uniq a2 b2 fun k => ?_]
    constructor
    · intro hk
      rcases List.mem_cons.mp ((h k).mp (List.mem_cons_of_mem _ hk)) with q | q
      · have := a1 k hk; omega
      · exact q
    · intro hk
      rcases List.mem_cons.mp ((h k).mpr (List.mem_cons_of_mem _ hk)) with q | q
      · have := b1 k hk; omega
      · exact q
theorem sortI_rising {ns : List Int} (h : ns.Nodup) : (sortI ns).Pairwise (· < ·) := by
  have h1 := sortI_sorted ns
  have h2 : (sortI ns).Nodup := (sortI_perm ns).nodup_iff.mpr h
  have : ∀ l : List Int, l.Pairwise (· ≤ ·) → l.Nodup → l.Pairwise (· < ·) := by
    intro l
    induction l with
    | nil => intro _ _; exact .nil
    | cons x l ih =>
      intro p n
      obtain ⟨p1, p2⟩ := List.pairwise_cons.mp p
      obtain ⟨n1, n2⟩ := List.nodup_cons.mp n
      refine List.pairwise_cons.mpr ⟨fun y hy => ?_, ih p2 n2⟩
      have := p1 y hy
      have : x ≠ y := fun z => n1 (z ▸ hy)
      omega
  exact this _ h1 h2
def kSortSet (d : D) : M D := onInts d fun ns => chk (decide (ns.length < 64)) (M.pure (.list (dInts (sortI (dedI ns)))))
def kLenSet (d : D) : M D := onInts d fun ns => chk (decide (ns.length < 64)) (M.pure (.int ((dedI ns).length : Nat)))
theorem pu_kSortSet : ∀ d, Pu (kSortSet d) := by intro d; unfold kSortSet onInts; repeat' (first | exact pu_chk pu_pure | exact pu_bad | split)
theorem pu_kLenSet : ∀ d, Pu (kLenSet d) := by intro d; unfold kLenSet onInts; repeat' (first | exact pu_chk pu_pure | exact pu_bad | split)
section
variable {P : Program} {w : World} {A : Around} {E : Value → Shared → Prop} {s : Shared}
theorem call_set_ls {l : Addr} {items : Array Value} (ns : List Int) {Q : Value → Shared → Prop} (hh : A.handled = none) (hl : s.heap.IsList l items) (hit : IntsAre items.toList ns) (hb : ns.length + 1 < scanBound)
    (h : ∀ (h' : Heap) (tk c : Nat), SetR w h' s.heap.objs.size (fun j => decide (j ∈ ns)) c → c ≤ ns.length → (∀ b o, s.heap.get? b = some o → h'.get? b = some o) → Q (.ref s.heap.objs.size) { s with heap := h', toks := tk }) :
    wpAny (model P w) A (call (.type "set") [.ref l]) Q E s := by
  have hisz : items.size = ns.length := by
    have q := IntsAre.length hit
    rw [Array.length_toList] at q
    exact q
  obtain ⟨c, tl, hmro⟩ := F.called_set.mro
  have hmade := F.called_set.made
  have hsub := F.called_set.sub
  refine wpAny_call (codeAny_of_tree ?_)
  show wpAny _ _ (callAny (.type "set") _) _ _ _
  refine wpAny_pure ⟨Code.quiet_builtin _ (by decide +kernel), codeAny_builtin F.entry_type_call ?_⟩
  rw [Around.under_plain (weight_type_call_type "set" [.ref l] []) rfl]
  have h1 := F.called_set.notType
  have h2 := F.called_set.canCreate
  have hct := F.typeCall_set_1 (.ref l)
  repeat (any_goals (first | assumption | wp_step))
  -- the new set
  let so : Obj := { cls := .type "set", dict := none, data := .set #[] 0 (.fresh 0 0 (!w.params.followText "set-order")) }
  refine codeAny_mono (code_set_led1 (.ref l) (E := E) (Q₁ := fun obj s₁ => obj = .ref s.heap.objs.size ∧ s₁ = { s with heap := s.heap.push so }) ⟨rfl, rfl⟩) fun r s₁ hr => ?_
  cases r with
  | error e => exact hr
  | ok fl =>
    cases fl with
    | ret obj =>
      obtain ⟨rfl, rfl⟩ := hr
      have hS : (s.heap.push so).get? s.heap.objs.size = some so := Heap.get?_push_size _ rfl
      have hT : Shared.TypeIs { s with heap := s.heap.push so } (.ref s.heap.objs.size) "set" := ⟨_, hS, rfl⟩
      have hli := F.called_set.init.lookup
      have hbi := F.called_set.init.bind (.ref s.heap.objs.size)
      repeat (any_goals (first | assumption | wp_step))
      refine codeAny_mono (codeAny_call_builtin (R := wants (fun r s₂ => r = .none ∧ ∃ h' tk c, s₂ = { s with heap := h', toks := tk } ∧ SetR w h' s.heap.objs.size (fun j => decide (j ∈ ns)) c ∧ c ≤ ns.length ∧
          (∀ b o, s.heap.get? b = some o → h'.get? b = some o)) E) F.called_set.init.plain F.entry_set_init (check_set_init_1 hT ?_)) fun r₂ s₂ hr₂ => ?_
      · obtain ⟨ol, hol, hcl, nl, hdl⟩ := hl
        obtain ⟨ocls, odict, odata, oslots⟩ := ol
        simp only at hcl hdl
        subst hcl; subst hdl
        have hol' : (s.heap.push so).get? l = some { cls := .type "list", dict := odict, data := .seq items nl, slots := oslots } := Heap.get?_push_of_some _ hol
        have hsls := F.sub_list_set
        have hslf := F.sub_list_frozenset
        have hne : (Value.type "list" == Value.type "dict") = false := by decide
        have hl1 : (s.heap.push so).IsList l items := ⟨_, hol', rfl, nl, rfl⟩
        unfold Builtin.«set.__init__» noKeywords Builtin.Frozenset.updateFrom
        generalize hPI : pyIter = PI
        wp_walk
        subst hPI
        refine wpAny_pyIter_list hl1 ?_
        refine wpAny_bind (wpAny_runValue ?_)
        have hlS : l < s.heap.objs.size := Heap.lt_size hol
        have hsz1 : (s.heap.push so).objs.size = s.heap.objs.size + 1 := Heap.size_push ..
        refine set_update_ints ((Walks.list (A := A.in1.in1.in1) (by simp [hh]) _ l (by rw [hsz1]; exact Nat.ne_of_lt (Nat.lt_succ_of_lt hlS)) items).toS) s.heap.objs.size
          (by rw [hsz1]; simp only [List.mem_cons, List.mem_singleton, List.not_mem_nil, or_false, not_or]; exact ⟨Nat.ne_of_lt (Nat.lt_succ_self _), Nat.ne_of_gt hlS⟩) ns hisz hb (fun i v hv => ?_) (items.size - 0) 0 _ (by omega) (Nat.zero_le _)
          ⟨⟨_, Heap.get?_push_size _ rfl, rfl, rfl⟩, hl1.push _⟩ ⟨0, Nat.le_refl 0, setR_new_at (Heap.get?_push_of_some _ hS)⟩ fun s' c' hm hc' hS' => ?_
        · have hi : i < ns.length := by rw [← hisz]; exact (Array.getElem?_eq_some_iff.mp hv).1
          obtain ⟨t, e⟩ := PyProof.Rows.IntsAre.int_at hit i v (by rw [Array.getElem?_toList]; exact hv)
          refine ⟨ns[i], t, List.getElem?_eq_getElem hi, ?_⟩
          rw [e, List.getD_eq_getElem?_getD, List.getElem?_eq_getElem hi] <;> rfl
        · obtain ⟨h', g2, d', tk', os'⟩ := s'
          have eg : g2 = s.gens := hm.gens
          have ed : d' = s.drawn := hm.drawn
          have eo : os' = s.os := hm.os
          subst eg; subst ed; subst eo
          show wpAny _ _ _ _ _ _
          refine wpAny_pure ?_
          show wpAny _ _ (ret Value.none) _ _ _
          rw [hisz] at hc'
          refine wpAny_pure ⟨rfl, h', tk', c', rfl, hS', hc', fun b o e => ?_⟩
          have hb0 : b < s.heap.objs.size := Heap.lt_size e
          refine hm.heap b o ?_ (Heap.get?_push_of_some _ (Heap.get?_push_of_some _ e))
          simp only [List.mem_cons, List.mem_singleton, List.not_mem_nil, or_false, not_or]
          exact ⟨Nat.ne_of_lt hb0, by show b ≠ (s.heap.push so).objs.size; rw [hsz1]; exact Nat.ne_of_lt (Nat.lt_succ_of_lt hb0)⟩
      · cases r₂ with
        | error e => exact hr₂
        | ok fl₂ =>
          cases fl₂ with
          | ret r =>
            obtain ⟨rfl, h', tk, c', rfl, hS', hc', hk'⟩ := hr₂
            repeat (any_goals (first | assumption | wp_step))
            exact h _ _ _ hS' hc' hk'
          | _ => exact hr₂.elim
    | _ => exact hr.elim
end
section
variable {X : Cx}
theorem setR_count {w : World} {h : Heap} {a : Addr} {ns : List Int} {c : Nat} (R : SetR w h a (fun j => decide (j ∈ ns)) c) : c = (dedI ns).length := by
  obtain ⟨o, es, ep, t, ho, hex, hd, g, nd, hm, hb, hf, hn, hr, hl⟩ := R
  have p : (es.toList.map keyOf).Perm (dedI ns) := by
    refine (List.perm_ext_iff_of_nodup nd (dedI_nodup ns)).mpr fun k => ?_
    rw [← hm k, decide_eq_true_iff, dedI_mem]
  rw [← p.length_eq, List.length_map, Array.length_toList, hn]
def tSortSet (K : PySem.W.Frag) (ta : TE) : TE := fun σ H Q => ta σ H fun x H1 => ∃ (l : Addr) (ns : List Int), x = V.ref l ∧ SqL K H1 l (ns.map V.int) ∧ ns.length < 64 ∧ ∀ p, H1 p = none → Q (.ref p) (upd H1 p (.lst ((sortI (dedI ns)).map V.int)))
def tLenSetL (K : PySem.W.Frag) (ta : TE) : TE := fun σ H Q => ta σ H fun x H1 => ∃ (l : Addr) (ns : List Int), x = V.ref l ∧ SqL K H1 l (ns.map V.int) ∧ ns.length < 64 ∧ Q (.int ((dedI ns).length : Nat)) H1
theorem pe_sortSet {a : Expr} {ta : TE} {p p2 q pos : Pos} (hc : X.calm = true) (hg : Gl X "sorted") (hm : X.mg "sorted" = none) (hg2 : Gl X "set") (hm2 : X.mg "set" = none) (ha : PE X a ta)
    (na : starEach [a] X.env = (false, eval a X.env) :: starEach [] X.env := by rfl) : PE X (.Call (.Name "sorted" p) [.Call (.Name "set" p2) [a] [] q] [] pos) (tSortSet X.K ta) := by
  refine ⟨fun pins s σ H Q I h => ?_⟩
  refine Call_ (ld_blt I hg hm (by decide +kernel : bootBuiltins "sorted" = some (.builtin "sorted")) ?_)
  refine PyProof.Rows.callWith_builtin1 (PyProof.Rows.args_cons ?_ rfl) rfl rfl
  refine Call_ (ld_blt I hg2 hm2 PyProof.Rows.boot_set ?_)
  refine PyProof.Rows.callWith_type1 (PyProof.Rows.args_cons (thn (ha.run pins s σ H _ I h) fun v s1 ⟨x, H1, I1, r1, q1⟩ => PyProof.Rows.args_nil ?_) na) na rfl
  obtain ⟨l, ns, rfl, hq, h64, q1⟩ := q1
  cases r1
  obtain ⟨its, r, pl, hz⟩ := I1.list hq
  refine call_set_ls ns (I1.ok.hd hc) pl.isList (by simpa using r.ints) (by unfold scanBound; omega) fun h' tk c R hcn k => ?_
  refine PyProof.Rows.args_nil ?_
  have I2 : Inv X pins σ H1 { s1 with heap := h', toks := tk } := I1.kept k
  generalize hs2 : ({ s1 with heap := h', toks := tk } : Shared) = s2 at I2
  have R2 : SetR X.w s2.heap s1.heap.objs.size (fun j => decide (j ∈ ns)) c := by rw [← hs2]; exact R
  refine sorted_set (s := s2) R2 (I2.ok.hd hc) (by omega) fun s' p out c' ns' k' g o hp hg hi hs hmm hl => ?_
  have en : ns' = sortI (dedI ns) := rising_uniq hs (sortI_rising (dedI_nodup ns)) fun j => by
    rw [hmm j, decide_eq_true_iff, (sortI_perm (dedI ns)).mem_iff, dedI_mem]
  have hlen : (ns'.map V.int).length ≤ sizeLine := by rw [List.length_map, hl, sizeLine_eq]; omega
  have hn : H1 p = none := I2.hok.fresh hp
  have J : Inv X pins σ (upd H1 p (.lst (ns'.map V.int))) { s2 with heap := s'.heap, gens := s'.gens, drawn := s'.drawn, toks := s'.toks } :=
    I2.call (ch := []) (Un.laid k' hp hn) (I2.hok.laid k' hp ⟨hlen, out.toList, c', vals_of_ints hi, hg⟩) (by rw [g]; exact I2.bare) (fun _ z => nomatch z)
  have e : s' = { s2 with heap := s'.heap, gens := s'.gens, drawn := s'.drawn, toks := s'.toks } := by
    cases s'
    cases s2
    cases o
    rfl
  rw [e]
  exact ⟨.ref p, _, J, rfl, by rw [en]; exact q1 p hn⟩
theorem pe_lenSetL {a : Expr} {ta : TE} {p p2 q pos : Pos} (hc : X.calm = true) (hg : Gl X "len") (hm : X.mg "len" = none) (hg2 : Gl X "set") (hm2 : X.mg "set" = none) (ha : PE X a ta)
    (na : starEach [a] X.env = (false, eval a X.env) :: starEach [] X.env := by rfl) : PE X (.Call (.Name "len" p) [.Call (.Name "set" p2) [a] [] q] [] pos) (tLenSetL X.K ta) := by
  refine ⟨fun pins s σ H Q I h => ?_⟩
  refine Call_ (ld_blt I hg hm PySem.boot_len ?_)
  refine PyProof.Rows.callWith_builtin1 (PyProof.Rows.args_cons ?_ rfl) rfl rfl
  refine Call_ (ld_blt I hg2 hm2 PyProof.Rows.boot_set ?_)
  refine PyProof.Rows.callWith_type1 (PyProof.Rows.args_cons (thn (ha.run pins s σ H _ I h) fun v s1 ⟨x, H1, I1, r1, q1⟩ => PyProof.Rows.args_nil ?_) na) na rfl
  obtain ⟨l, ns, rfl, hq, h64, q1⟩ := q1
  cases r1
  obtain ⟨its, r, pl, hz⟩ := I1.list hq
  refine call_set_ls ns (I1.ok.hd hc) pl.isList (by simpa using r.ints) (by unfold scanBound; omega) fun h' tk c R hcn k => ?_
  refine PyProof.Rows.args_nil ?_
  have I2 : Inv X pins σ H1 { s1 with heap := h', toks := tk } := I1.kept k
  have cn := setR_count R
  obtain ⟨o, es, ep, t, ho, hex, hd, _, _, _, hb, hf, hn, _⟩ := R
  exact call_len_set ho hex hd hf (by rw [hn] <;> omega) ⟨.int ((dedI ns).length : Nat), H1, I2.tok _, ⟨_, by rw [hn, cn]⟩, q1⟩
end
section
variable [Ec] {κ : Kn} {W : WX} {X : Cx}
theorem de_sortSet {a : Expr} {fa : DL.X D} {p p2 q pos : Pos} (hc : X.calm = true) (hg : Gl X "sorted") (hm : X.mg "sorted" = none) (hg2 : Gl X "set") (hm2 : X.mg "set" = none) (ha : DE κ W X RV a fa)
    (na : starEach [a] X.env = (false, eval a X.env) :: starEach [] X.env := by rfl) : DE κ W X RN (.Call (.Name "sorted" p) [.Call (.Name "set" p2) [a] [] q] [] pos) (x1 kSortSet fa) :=
  PE.weak (pe_sortSet hc hg hm hg2 hm2 ha na) fun σ H Q ⟨g, F, own, ρ, w, lr, p⟩ => by
    refine ⟨g, F, own, ρ, w, lr, (po_bind p).mono fun d g1 F1 w1 H1 e1 k1 p1 v hv => ?_⟩
    obtain ⟨l, ns, rfl, _, hl, p2⟩ := po_ints k1 hv (p1 e1)
    obtain ⟨c, p2⟩ := po_chk p2
    exact ⟨l, ns, rfl, SqL.of hl, of_decide_eq_true c, fun q hq => by
      have nq := k1.fresh hq
      exact p2 g1 F1 _ (Ext.hid hq) (k1.hid nq.1 nq.2) _ ⟨q, _, _, rfl, rfl, e1.there q hq, nq.2, nq.1, upd_same, RpL.of_ints _⟩⟩
theorem de_lenSet {a : Expr} {fa : DL.X D} {p p2 q pos : Pos} (hc : X.calm = true) (hg : Gl X "len") (hm : X.mg "len" = none) (hg2 : Gl X "set") (hm2 : X.mg "set" = none) (ha : DE κ W X RV a fa)
    (na : starEach [a] X.env = (false, eval a X.env) :: starEach [] X.env := by rfl) : DE κ W X RD (.Call (.Name "len" p) [.Call (.Name "set" p2) [a] [] q] [] pos) (x1 kLenSet fa) :=
  PE.weak (pe_lenSetL hc hg hm hg2 hm2 ha na) fun σ H Q ⟨g, F, own, ρ, w, lr, p⟩ => by
    refine ⟨g, F, own, ρ, w, lr, (po_bind p).mono fun d g1 F1 w1 H1 e1 k1 p1 v hv => ?_⟩
    obtain ⟨l, ns, rfl, _, hl, p2⟩ := po_ints k1 hv (p1 e1)
    obtain ⟨c, p2⟩ := po_chk p2
    exact ⟨l, ns, rfl, SqL.of hl, of_decide_eq_true c, p2 g1 F1 H1 (Ext.refl _ _ _) k1 _ (.int _)⟩
end
theorem kSortSet_l {ns : List Int} (h : ns.length < 64) : kSortSet (eL ns) = M.pure (eL (sortI (dedI ns))) := by
  have e : (ns.map Enc.e : List D) = dInts ns := rfl
  unfold kSortSet onInts eL
  rw [e]
  dsimp only
  rw [intsOf_dInts]
  dsimp only
  rw [decide_eq_true h]
  rfl
theorem kLenSet_l {ns : List Int} (h : ns.length < 64) : kLenSet (eL ns) = M.pure (.int ((dedI ns).length : Nat)) := by
  have e : (ns.map Enc.e : List D) = dInts ns := rfl
  unfold kLenSet onInts eL
  rw [e]
  dsimp only
  rw [intsOf_dInts]
  dsimp only
  rw [decide_eq_true h]
  rfl
end DL

/-! x not in t, t a tuple of ints. -/
namespace DL
open PySem PySem.Spec PyProof.Rows L2
def kNotInT (a : D) : D → M D
  | .tuple ds => match a with
    | .int i => match intsOf ds with
      | some ns => M.pure (.bool (!decide (i ∈ ns)))
      | none => M.bad
    | _ => M.bad
  | _ => M.bad
theorem pu_kNotInT : ∀ a b, Pu (kNotInT a b) := by intro a b; unfold kNotInT; repeat' (first | exact pu_pure | exact pu_bad | split)
theorem inV_ints (i : Int) : ∀ ns : List Int, inV (.int i) (ns.map V.int) = decide (i ∈ ns)
  | [] => rfl
  | n :: ns => by
    have ih := inV_ints i ns
    unfold inV at ih ⊢
    rw [List.map_cons, List.any_cons, ih]
    show ((n == i) || _) = _
    by_cases h : n = i
    · subst h; simp
    · have : ¬(i = n) := fun z => h z.symm
      simp [h, this]
theorem flat_ints : ∀ ns : List Int, (ns.map V.int).all flatV = true
  | [] => rfl
  | n :: ns => by rw [List.map_cons, List.all_cons, flat_ints ns]; rfl
section
variable [Ec] {κ : Kn} {W : WX} {X : Cx}
theorem k_notInT {K : PySem.W.Frag} : Op2 κ W K RV RV RD (rIn K true) kNotInT := fun g F w H0 H1 H σ x y dx dy Q k hx hy p => by
  cases dy with
  | tuple ds =>
    cases dx with
    | int i =>
      unfold kNotInT at p
      dsimp only at p
      cases e : intsOf ds with
      | none => rw [e] at p; exact p.elim
      | some ns =>
        rw [e] at p
        have e2 := intsOf_eq e
        subst e2
        obtain ⟨a, vs, rfl, _, ha, ra⟩ := hy.tup k
        rw [ra.ints] at ha
        refine ⟨a, _, rfl, .inr (SqT.of ha), ?_, flat_ints ns, ?_⟩
        · rw [hx.int]; rfl
        · rw [hx.int, if_pos rfl, inV_ints]
          exact po_fz p k (.bl _)
    | _ => exact p.elim
  | _ => exact p.elim
end
theorem kNotInT_t (i : Int) (ns : List Int) : kNotInT (.int i) (eT ns) = M.pure (.bool (!decide (i ∈ ns))) := by
  have e : (ns.map Enc.e : List D) = dInts ns := rfl
  unfold kNotInT eT
  rw [e]
  dsimp only
  rw [intsOf_dInts]
end DL

/-! Texts: join, split. -/
namespace DL
open PySem PySem.Spec PyProof.Rows L2
def strsOf : List D → Option (List Str)
  | [] => some []
  | .str i :: r => (strsOf r).map (i :: ·)
  | _ => none
theorem strsOf_eq : ∀ {ds : List D} {ns : List Str}, strsOf ds = some ns → ds = dStrs ns
  | [], ns, h => by cases h; rfl
  | .str i :: r, ns, h => by
    unfold strsOf at h
    cases e : strsOf r with
    | none => rw [e] at h; cases h
    | some ms =>
      rw [e] at h
      cases h
      rw [strsOf_eq e]
      rfl
  | .none :: _, _, h => by cases h
  | .bool _ :: _, _, h => by cases h
  | .int _ :: _, _, h => by cases h
  | .list _ :: _, _, h => by cases h
  | .tuple _ :: _, _, h => by cases h
  | .dict _ :: _, _, h => by cases h
theorem strsOf_dStrs : ∀ ns : List Str, strsOf (dStrs ns) = some ns
  | [] => rfl
  | n :: ns => by
    show (strsOf (dStrs ns)).map (n :: ·) = _
    rw [strsOf_dStrs ns]
    rfl
def kJoin : D → List D → M D
  | .str a, [.list ds] => match strsOf ds with
    | some ys => chk (decide ((ys.map (·.length)).sum + ys.length * a.length ≤ 16777216)) (M.pure (.str (Txt.join a ys)))
    | none => M.bad
  | _, _ => M.bad
def kSplit : D → List D → M D
  | .str a, [.str b] => chk ((!(b.length == 0)) && decide (a.length + 2 ≤ sizeLine)) (M.pure (.list (dStrs (Txt.split a b))))
  | _, _ => M.bad
theorem pu_kJoin : ∀ d ds, Pu (kJoin d ds) := by intro d ds; unfold kJoin; repeat' (first | exact pu_chk pu_pure | exact pu_bad | split)
theorem pu_kSplit : ∀ d ds, Pu (kSplit d ds) := by intro d ds; unfold kSplit; repeat' (first | exact pu_chk pu_pure | exact pu_bad | split)
def rJoin (K : PySem.W.Frag) : V → List V → Hp → VK → Prop := fun x xs H Q => ∃ a p, ∃ ys : List Str, x = .str a ∧ xs = [.ref p] ∧ (SqL K H p (ys.map V.str) ∨ SqT K H p (ys.map V.str)) ∧ (ys.map (·.length)).sum + ys.length * a.length ≤ 16777216 ∧ Q (.str (Txt.join a ys)) H
def rSplit : V → List V → Hp → VK → Prop := fun x xs H Q => ∃ a b, x = .str a ∧ xs = [.str b] ∧ (b.length == 0) = false ∧ a.length + 2 ≤ sizeLine ∧ rNewStrs (Txt.split a b) H Q
section
variable [Ec] {κ : Kn} {W : WX} {K : PySem.W.Frag}
theorem k_join : OpM κ W K [RV] RD "str" (rJoin K) kJoin := ⟨fun g F w H0 H v d k h e => tyv_str k h e, fun g F w H0 H1 H σ v d vs ds Q k hv he hvs p => by
  obtain ⟨y, x, rfl, rfl, hx⟩ := rpr1 hvs
  cases d with
  | str a =>
    cases x with
    | list ds =>
      unfold kJoin at p
      dsimp only at p
      cases e : strsOf ds with
      | none => rw [e] at p; exact p.elim
      | some ys =>
        rw [e] at p
        have e2 := strsOf_eq e
        subst e2
        obtain ⟨q, us, rfl, ha, hr⟩ := RV.list hx k
        have e3 := hr.strs
        subst e3
        obtain ⟨c, p⟩ := po_chk p
        rw [hv.str]
        exact ⟨a, q, ys, rfl, rfl, .inl (SqL.of ha), of_decide_eq_true c, po_fz p k (.str _)⟩
    | _ => exact p.elim
  | _ => exact p.elim⟩
theorem k_split : OpM κ W K [RV] RN "str" rSplit kSplit := ⟨fun g F w H0 H v d k h e => tyv_str k h e, fun g F w H0 H1 H σ v d vs ds Q k hv he hvs p => by
  obtain ⟨y, x, rfl, rfl, hx⟩ := rpr1 hvs
  cases d with
  | str a =>
    cases x with
    | str b =>
      obtain ⟨c, p⟩ := po_chk p
      rw [Bool.and_eq_true] at c
      rw [hv.str, hx.str]
      exact ⟨a, b, rfl, rfl, by simpa using c.1, of_decide_eq_true c.2, fun q hq => po_list (R := RN) p k hq (RpL.of_strs _)⟩
    | _ => exact p.elim
  | _ => exact p.elim⟩
end
end DL

/-! The signs of a text, one by one. -/
namespace DL
open PySem PySem.Spec PyProof.Rows L2
def chars (z : Str) : List D := z.cps.toList.map fun c => .str ⟨#[c]⟩
def asC : D → M (List D)
  | .str z => chk (decide (z.cps.size ≤ 100000)) (M.pure (chars z))
  | _ => M.bad
theorem pu_asC : ∀ d, Pu (asC d) := by intro d; unfold asC; repeat' (first | exact pu_chk pu_pure | exact pu_bad | split)
section
variable [Ec] {κ : Kn} {W : WX} {X : Cx} {tg l : Expr} {fl : DL.X D}
theorem di_str (h : DE κ W X RD l fl) : DI κ W X false tg l (xIt asC fl) := PI.weak (pi_str h) fun σ H R ⟨g, F, own, ρ, w, lr, p⟩ => by
  refine ⟨g, F, own, ρ, w, lr, (po_bind p).mono fun d g1 F1 w1 H1 e1 k1 p1 v hv => ?_⟩
  have p2 := p1 e1
  cases d with
  | str z =>
    obtain ⟨c, p2⟩ := po_chk p2
    have c' := of_decide_eq_true c
    have hl : (chars z).length = z.cps.size := by unfold chars; rw [List.length_map, Array.length_toList]
    refine ⟨z, RV.str (H0 := H) (H := H1) (.inl hv), po_ok p2 k1 _ (fun g F w H i k la => ⟨fun d hd => ?_, fun hs => ?_⟩) (by rw [hl, sizeLine_eq]; omega)⟩
    · have hi : i < z.cps.size := by rw [← hl]; exact (List.getElem?_eq_some_iff.mp hd).1
      refine ⟨hi, fun x H' y => ?_⟩
      obtain ⟨rfl, c, hc, rfl⟩ := y
      unfold chars at hd
      rw [List.getElem?_map, Array.getElem?_toList, hc] at hd
      cases hd
      exact ⟨F, Ext.refl g F _, k, .str _⟩
    · show z.cps.size ≤ i
      omega
  | _ => exact p2.elim
end
end DL

/-! xs.remove(k) of one's own list of ints. -/
namespace DL
open PySem PySem.Spec PyProof.Rows L2
def ixI (k : Int) : List Int → Nat
  | [] => 0
  | x :: r => if x = k then 0 else ixI k r + 1
theorem ixI_get {k : Int} : ∀ {ns : List Int}, k ∈ ns → ns[ixI k ns]? = some k ∧ ∀ m, m < ixI k ns → ns[m]? ≠ some k
  | [], h => by cases h
  | x :: r, h => by
    unfold ixI
    by_cases e : x = k
    · rw [if_pos e]
      exact ⟨by rw [List.getElem?_cons_zero, e], fun m hm => absurd hm (Nat.not_lt_zero _)⟩
    · rw [if_neg e]
      have hr : k ∈ r := by
        rcases List.mem_cons.mp h with z | z
        · exact absurd z.symm e
        · exact z
      obtain ⟨h1, h2⟩ := ixI_get hr
      refine ⟨by rw [List.getElem?_cons_succ]; exact h1, fun m hm => ?_⟩
      cases m with
      | zero =>
        rw [List.getElem?_cons_zero]
        intro z
        exact e (Option.some.inj z)
      | succ m =>
        rw [List.getElem?_cons_succ]
        exact h2 m (by omega)
def remI (k : Int) (ns : List Int) : List Int := ns.eraseIdx (ixI k ns)
def remS (i : Nat) (xs : List D) (ρ : List Slot) (w : W') : D → SR
  | .int k => match intsOf xs with
    | some ns => if decide (k ∈ ns) then .nx (ρ.set i (.own (dInts (remI k ns)))) w else .bad
    | none => .bad
  | _ => .bad
def sRem (i : Nat) (fe : DL.X D) : Sm := fun ρ w => match ρ[i]? with
  | some (.own xs) => (fe ρ w).to ρ fun d w => remS i xs ρ w d
  | _ => .bad
section
variable [Ec] {κ : Kn} {W : WX} {X : Cx} {e : Expr} {fe : DL.X D} {pos : Pos}
theorem ds_rem {i : Nat} {x : Str} {pos' apos cpos : Pos} (hx : PE X (.Name x pos') (tVar i)) (he : DE κ W X RD e fe)
    (hbase : attributeBase (.Name x pos') "remove" X.env (eval (.Name x pos') X.env) = eval (.Name x pos') X.env := by rfl)
    (hfew : ((backTo cpos (starEach [e] X.env)).all (fun x => !x.1) && (backToKw cpos (keywordEach [] X.env)).all (fun x => x.1.isSome)
      && decide ([e].length + ([] : List Keyword).length + (if ([] : List Keyword).isEmpty then 0 else 1) < 30)) = true := by rfl)
    (hline : (apos.endLine == cpos.line) = true := by rfl) (hs : starEach [e] X.env = (false, eval e X.env) :: starEach [] X.env := by rfl) (hplain : (backTo cpos (starEach [] X.env)).any (·.1) = false := by rfl)
    (hsw : swapsWith (.Call (.Attribute (.Name x pos') "remove" apos) [e] [] cpos) none pos.line X.env = pure false := by rfl) :
    DS κ W X (.Expr (.Call (.Attribute (.Name x pos') "remove" apos) [e] [] cpos) pos) (sRem i fe) :=
  PS.weak (ps_expr (pe_bm PySem.F.plainAttrs_list PySem.F.slot_list_remove PySem.F.type_list_remove mt_remove hx (pa_cons he pa_nil hs) hbase hfew hline hs hplain) hsw) fun E σ H ⟨g0, F0, H0, g, F, own, ρ, w, s, p⟩ => by
  unfold sRem at p
  split at p
  · rename_i xs ea
    obtain ⟨h1, h2, h3, vs, h4, h5⟩ := s.lr.slots i _ ea
    refine ⟨_, h1, .inl ⟨rfl, vs, SqL.of h4⟩, g, F, own, ρ, w, s.lr, (po_to s p).mono fun d g1 F1 w1 H1 e1 k1 p1 v hv => ?_⟩
    have p2 := p1 e1
    have s1 := s.ext e1 k1
    cases d with
    | int k =>
      unfold remS at p2
      dsimp only at p2
      cases en : intsOf xs with
      | none => rw [en] at p2; exact p2.elim
      | some ns =>
        rw [en] at p2
        dsimp only at p2
        split at p2
        · rename_i c
          have hk := of_decide_eq_true c
          have ex := intsOf_eq en
          subst ex
          have hv' := h5.ints
          subst hv'
          have hvi : v = .int k := by cases hv; rfl
          rw [hvi]
          obtain ⟨g1', g2'⟩ := ixI_get hk
          exact ⟨own i, ns, k, ixI k ns, rfl, rfl, e1.keep _ _ h4 h3, g1', g2', p2 g1 F1 own σ _ (s1.poke ea (RpL.of_ints _))⟩
        · exact p2.elim
    | _ => exact p2.elim
  · exact p.elim
end
theorem rem_ok {ρ : List Slot} {i : Nat} {ns : List Int} {k : Int} {fe : X D} {w w' : W'} (e : ρ[i]? = some (.own (ns.map Enc.e))) (he : fe ρ w = .ok (.int k) w') (hk : k ∈ ns) : sRem i fe ρ w = .nx (ρ.set i (.own ((remI k ns).map Enc.e))) w' := by
  unfold sRem
  rw [e, he]
  show remS i (dInts ns) ρ w' (.int k) = _
  unfold remS
  rw [intsOf_dInts]
  dsimp only
  rw [decide_eq_true hk]
  rfl
end DL

/-! A list of one's own lent to a def that hands back a plain value. -/
namespace DL
open PySem PySem.Spec PyProof.Rows L2
def flatD : D → Bool
  | .none => true
  | .bool _ => true
  | .int _ => true
  | .str _ => true
  | .dict [(.int _, .none)] => true
  | _ => false
def flatC : Cell → Bool
  | .lst ds => ds.all flatD
  | .ins _ => false
def lend (m : List D → M D) : List D → M D := fun ds w => match m ds w with
  | .ok d w' => if flatD d && w'.all flatC then .ok d w' else .bad
  | _ => .bad
section
variable [Ec] {κ : Kn} {W : WX} {X : Cx}
theorem rp_flat {g : List Addr} {F F' : Hp} {v : V} {d : D} (h : Rp g F v d) (f : flatD d = true) : Rp g F' v d := by
  cases h with
  | non => exact .non
  | bl b => exact .bl b
  | int i => exact .int i
  | str x => exact .str x
  | hn h => exact .hn h
  | _ => exact absurd f (by simp [flatD, exD])
theorem rpl_flat {g : List Addr} {F F' : Hp} : ∀ {vs : List V} {ds : List D}, RpL g F vs ds → ds.all flatD = true → RpL g F' vs ds
  | _, _, .nil, _ => .nil
  | _, _, .cons h t, f => by
    rw [List.all_cons, Bool.and_eq_true] at f
    exact .cons (rp_flat h f.1) (rpl_flat t f.2)
def without (F : Hp) (a : Addr) : Hp := fun b => if b = a then none else F b
theorem without_self (F : Hp) (a : Addr) : without F a a = none := if_pos rfl
theorem without_ne {F : Hp} {a b : Addr} (h : b ≠ a) : without F a b = F b := if_neg h
theorem wk_without {g : List Addr} {F H : Hp} {w : W'} {a : Addr} (k : Wk κ g F w H) (f : w.all flatC = true) : Wk κ g (without F a) w H where
  FH := fun b o e => by
    by_cases q : b = a
    · rw [q, without_self] at e; cases e
    · rw [without_ne q] at e; exact k.FH b o e
  gnd := k.gnd
  gF := fun b hb => by
    by_cases q : b = a
    · rw [q]; exact without_self F a
    · rw [without_ne q]; exact k.gF b hb
  gl := k.gl
  cells := fun i c hc => by
    obtain ⟨b, hb, ok⟩ := k.cells i c hc
    refine ⟨b, hb, ?_⟩
    have fc := List.all_eq_true.mp f c (List.mem_of_getElem? hc)
    cases c with
    | lst ds =>
      obtain ⟨vs, h1, h2⟩ := ok
      exact ⟨vs, h1, rpl_flat h2 fc⟩
    | ins fs => cases fc
theorem wk_lent {g : List Addr} {F H : Hp} {w : W'} {a : Addr} {vs : List V} (k : Wk κ g F w H) (ha : H a = some (.lst vs)) (hg : a ∉ g) (hF : F a = none) : Wk κ g (upd F a (.lst vs)) w H where
  FH := fun b o e => by
    by_cases q : b = a
    · subst q; rw [upd_same] at e; rw [← e]; exact ha
    · rw [upd_ne q] at e; exact k.FH b o e
  gnd := k.gnd
  gF := fun b hb => by
    have q : b ≠ a := fun z => hg (z ▸ hb)
    rw [upd_ne q]; exact k.gF b hb
  gl := k.gl
  cells := fun i c hc => by
    obtain ⟨b, hb, ok⟩ := k.cells i c hc
    exact ⟨b, hb, ok.mono List.prefix_rfl (fun x o e => by
      have q : x ≠ a := fun z => by rw [z, hF] at e; cases e
      rw [upd_ne q]; exact e) fun _ h => h⟩
theorem ext_lent {g g2 : List Addr} {F H F2 H2 : Hp} {a : Addr} {o : HO} (hF : F a = none) (e : Ext g (upd F a o) H g2 F2 H2) : Ext g F H g2 (without F2 a) H2 where
  gg := e.gg
  FF := fun b o' h => by
    have q : b ≠ a := fun z => by rw [z, hF] at h; cases h
    rw [without_ne q]
    exact e.FF b o' (by rw [upd_ne q]; exact h)
  keep := e.keep
  there := e.there
  newF := fun b hH h => by
    by_cases q : b = a
    · rw [q, without_self] at h; exact absurd rfl h
    · rw [without_ne q] at h
      have := e.newF b hH h
      rwa [upd_ne q] at this
  newg := e.newg
theorem de_lend {x : Str} {p : Pos} {e1 e2 : Expr} {k j : Nat} {m : List D → M D} {fs : DL.X (List D)} {pos : Pos} (c : Cal X.prog X.w X.K X.mg X.base κ x k 2 m) (hr : Room j X.A) (hk : k ≤ j) (tk : Takes X W) (hg : Gl X x)
    (ha : DA κ W X [RD, RV] [e1, e2] fs) (hdb : (x == ("__debug__" : Str)) = false := by decide) (he : starEach [e1, e2] X.env = (false, eval e1 X.env) :: starEach [e2] X.env := by rfl) (hpl : (backTo pos (starEach [e2] X.env)).any (·.1) = false := by rfl) :
    DE κ W X RD (.Call (.Name x p) [e1, e2] [] pos) (xCall (lend m) fs) := by
  obtain ⟨f, fd, ps, Fk, hm, hkp, hb⟩ := c
  refine PE.weak (pe_callS Fk (hr.mono hk) hg hm hkp hb (fun σ => passAt tk σ) ha hdb he hpl) fun σ H Q ⟨g, F, own, ρ, w, lr, p⟩ => ?_
  refine ⟨g, F, own, ρ, w, lr, (po_bind p).mono fun ds g1 F1 w1 H1 e1 k1 p1 vs hv => ?_⟩
  have p2 := p1 e1
  cases hv with
  | cons h1 t =>
    cases t with
    | cons h2 t =>
      cases t with
      | nil =>
        rename_i v1 d1 v2 d2
        unfold lend at p2
        cases hmr : m [d1, d2] w1 with
        | err c w' => rw [hmr] at p2; exact p2.elim
        | bad => rw [hmr] at p2; exact p2.elim
        | ok d w' =>
          rw [hmr] at p2
          dsimp only at p2
          split at p2
          · rename_i hf
            rw [Bool.and_eq_true] at hf
            by_cases fr : Rp g1 F1 v2 d2
            · refine ⟨g1, F1, w1, [d1, d2], k1, .cons h1 (.cons fr .nil), rfl, ?_⟩
              rw [hmr]
              exact fun g' F' H' ex kk v hv => p2 g' F' H' ex kk v hv
            · rcases h2 with h2 | ⟨a, us, es, rfl, rfl, hag, hHa, hr⟩
              · exact absurd h2 fr
              · have hF : F1 a = none := by
                  cases q : F1 a with
                  | none => rfl
                  | some o =>
                    have := k1.FH a o q
                    rw [hHa] at this
                    cases this
                    exact absurd (Rp.lst q hr) fr
                have up : ∀ b o, F1 b = some o → upd F1 a (.lst us) b = some o := fun b o q => by
                  have n : b ≠ a := fun z => by rw [z, hF] at q; cases q
                  rw [upd_ne n]; exact q
                refine ⟨g1, upd F1 a (.lst us), w1, [d1, .list es], wk_lent k1 hHa hag hF, .cons (h1.mono List.prefix_rfl up) (.cons (.lst upd_same (hr.mono List.prefix_rfl up)) .nil), rfl, ?_⟩
                rw [hmr]
                intro g' F' H' ex kk v hv
                exact p2 g' (without F' a) H' (ext_lent hF ex) (wk_without kk hf.2) v (rp_flat hv hf.1)
          · exact p2.elim
end
theorem lend_ok {m : List D → M D} {ds : List D} {d : D} {w w' : W'} (e : m ds w = .ok d w') (f : flatD d = true) (h : DW w') : lend m ds w = .ok d w' := by
  obtain ⟨c, ns, rfl, _, _⟩ := h
  unfold lend
  rw [e]
  dsimp only
  have : ([Cell.lst [hnd 1, .int c], .lst (dInts ns)] : W').all flatC = true := by
    rw [List.all_cons, List.all_cons, List.all_nil, Bool.and_true]
    have h2 : flatC (.lst (dInts ns)) = true := by
      show (dInts ns).all flatD = true
      unfold dInts
      rw [List.all_map, List.all_eq_true]
      intro n _
      rfl
    rw [h2]
    rfl
  rw [f, this]
  rfl
end DL

/-! A dict of one's own, ints to ints. -/
namespace DL
open PySem PySem.Spec PyProof.Rows L2
def dcVal (kvs : List (Int × Int)) (k : Int) : Option Int := (kvs.find? fun p => decide (p.1 = k)).map (·.2)
theorem dcT_val (k : Int) : ∀ kvs : List (Int × Int), valV (dcT kvs) (.inl k) = (dcVal kvs k).map V.int
  | [] => rfl
  | p :: r => by
    have ih := dcT_val k r
    show valV ((.inl p.1, V.int p.2) :: dcT r) (.inl k) = _
    unfold dcVal
    by_cases e : p.1 = k
    · rw [valV_pos (by rw [e]), List.find?_cons, decide_eq_true e]
      rfl
    · rw [valV_neg (by intro z; cases z; exact e rfl), ih, List.find?_cons, decide_eq_false e]
      rfl
def dcPut (kvs : List (Int × Int)) (k v : Int) : List (Int × Int) := if (kvs.any fun p => decide (p.1 = k)) = true then kvs.map fun p => if p.1 = k then (p.1, v) else p else kvs ++ [(k, v)]
def dcGet (kvs : List (Int × Int)) : D → D → M D
  | .int k, d => M.pure (match dcVal kvs k with | some v => .int v | none => d)
  | _, _ => M.bad
def xDGet (i : Nat) (fk : X D) : X D := fun ρ w => match ρ[i]? with
  | some (.dc kvs) => M.bind (fk ρ) (fun k => match k with
    | .int k => (match dcVal kvs k with | some v => M.pure (.int v) | none => M.bad)
    | _ => M.bad) w
  | _ => .bad
def xDGet2 (i : Nat) (fk fd : X D) : X D := fun ρ w => match ρ[i]? with
  | some (.dc kvs) => M.bind (fk ρ) (fun k => M.bind (fd ρ) fun d => dcGet kvs k d) w
  | _ => .bad
def xDIn (i : Nat) (fk : X D) : X D := fun ρ w => match ρ[i]? with
  | some (.dc kvs) => M.bind (fk ρ) (fun k => match k with
    | .int k => M.pure (.bool (dcVal kvs k).isSome)
    | _ => M.bad) w
  | _ => .bad
section
variable [Ec] {κ : Kn} {W : WX} {X : Cx} {e f : Expr} {fk fd : DL.X D} {pos : Pos}
theorem de_dget {i : Nat} {o : Expr} (hu : X.A.units + 1 < cLine) (hx : PE X o (tVar i)) (he : DE κ W X RD e fk) (hs : NoSl e) : DE κ W X RD (.Subscript o e pos) (xDGet i fk) :=
  PE.weak (pe_dget hu hx he hs) fun σ H Q ⟨g, F, own, ρ, w, r, p⟩ => by
  unfold xDGet at p
  cases er : ρ[i]? with
  | none => rw [er] at p; exact p.elim
  | some s =>
    rw [er] at p
    cases s with
    | un => exact p.elim
    | d x => exact p.elim
    | own xs => exact p.elim
    | dc kvs =>
      obtain ⟨h1, h2, h3, h4⟩ := r.slots i _ er
      refine ⟨_, h1, g, F, own, ρ, w, r, (po_bind p).mono fun d g1 F1 w1 H1 e1 k1 p1 y hy => ?_⟩
      have p2 := p1 e1
      cases d with
      | int k =>
        dsimp only at p2
        obtain rfl : y = .int k := by cases hy; rfl
        cases ev : dcVal kvs k with
        | none => rw [ev] at p2; exact p2.elim
        | some v =>
          rw [ev] at p2
          have g0 := DGet.k (k := .inl k) (e1.keep _ _ h4 h3)
          rw [dcT_val, ev] at g0
          exact ⟨own i, .int v, rfl, g0, po_ok p2 k1 _ (.int v)⟩
      | _ => exact p2.elim
theorem de_dget2 {i : Nat} {o : Expr} {apos cpos : Pos} (hu : X.A.units + 1 < cLine) (hx : PE X o (tVar i)) (he : DE κ W X RD e fk) (hf : DE κ W X RD f fd) (m : M2 X o "get" apos e f cpos) :
    DE κ W X RD (.Call (.Attribute o "get" apos) [e, f] [] cpos) (xDGet2 i fk fd) :=
  PE.weak (pe_dget2 hu hx he hf m) fun σ H Q ⟨g, F, own, ρ, w, r, p⟩ => by
  unfold xDGet2 at p
  cases er : ρ[i]? with
  | none => rw [er] at p; exact p.elim
  | some s =>
    rw [er] at p
    cases s with
    | un => exact p.elim
    | d x => exact p.elim
    | own xs => exact p.elim
    | dc kvs =>
      obtain ⟨h1, h2, h3, h4⟩ := r.slots i _ er
      refine ⟨_, h1, own i, rfl, .inl ⟨_, .inl h4⟩, g, F, own, ρ, w, r, (po_bind p).mono fun d g1 F1 w1 H1 e1 k1 p1 y hy => ?_⟩
      have p2 := p1 e1
      have r1 := r.ext e1 k1
      have h31 := (r1.slots i _ er).2.2.1
      refine ⟨g1, F1, own, ρ, w1, r1, (po_bind p2).mono fun d2 g2 F2 w2 H2 e2 k2 p3 z hz => ?_⟩
      have p4 := p3 e2
      cases d with
      | int k =>
        obtain rfl : y = .int k := by cases hy; rfl
        have g0 := DGet.k (k := .inl k) (e2.keep _ _ (e1.keep _ _ h4 h3) h31)
        rw [dcT_val] at g0
        refine ⟨_, g0, ?_⟩
        have p5 := po_ok p4 k2
        cases ev : dcVal kvs k with
        | none => rw [ev] at p5; exact p5 _ hz
        | some v => rw [ev] at p5; exact p5 _ (.int v)
      | _ => exact p4.elim
theorem dcT_put (kvs : List (Int × Int)) (k v : Int) : dcT (dcPut kvs k v) = putK (dcT kvs) (.inl k) (.int v) := by
  have an : ((dcT kvs).any fun kv => decide (kv.1 = (Sum.inl k : Key))) = kvs.any fun p => decide (p.1 = k) := by
    unfold dcT
    rw [List.any_map]
    congr 1
    funext p
    exact decide_eq_decide.mpr ⟨fun z => Sum.inl.inj z, fun z => congrArg _ z⟩
  unfold putK dcPut
  rw [an]
  by_cases h : (kvs.any fun p => decide (p.1 = k)) = true
  · rw [if_pos h, if_pos h]
    unfold dcT
    rw [List.map_map, List.map_map]
    refine List.map_congr_left fun p _ => ?_
    show (Sum.inl (if p.1 = k then (p.1, v) else p).1, V.int (if p.1 = k then (p.1, v) else p).2) = if (Sum.inl p.1 : Key) = Sum.inl k then ((Sum.inl p.1 : Key), V.int v) else (Sum.inl p.1, V.int p.2)
    by_cases e : p.1 = k
    · rw [if_pos e, if_pos (congrArg _ e)]
    · rw [if_neg e, if_neg fun z => e (Sum.inl.inj z)]
  · rw [if_neg h, if_neg h]
    unfold dcT
    rw [List.map_append]
    rfl
/-- one's own dict is written -/
theorem Sr.pokeD {g0 g : List Addr} {F0 H0 F H : Hp} {w : W'} {own : Nat → Addr} {ρ : List Slot} {σ : L2.St} (s : Sr κ g0 F0 H0 g F own ρ w σ H) {i : Nat} {xs ys : List (Int × Int)} (hi : ρ[i]? = some (.dc xs)) : Sr κ g0 F0 H0 g F own (ρ.set i (.dc ys)) w σ (upd H (own i) (.dK (dcT ys))) := by
  obtain ⟨h1, h2, h3, h4⟩ := s.lr.slots i _ hi
  refine ⟨⟨s.lr.wk.hid h3 h2, ?_, fun j t ej => ?_, fun a b ys' zs e1 e2 m1 m2 e3 => ?_⟩, s.ex.poke (s.ow i _ hi rfl), fun j ys' ej m => ?_⟩
  · rw [List.length_set]; exact s.lr.len
  · rcases get_set ej with ⟨q, rfl⟩ | ⟨q, e'⟩
    · subst q
      exact ⟨h1, h2, h3, upd_same⟩
    · have := s.lr.slots j t e'
      cases t with
      | un => trivial
      | d x => exact this
      | own zs =>
        obtain ⟨q1, q2, q3, ws, q4, q5⟩ := this
        exact ⟨q1, q2, q3, ws, by rw [upd_ne (fun z => q (s.lr.owns i j _ _ hi e' rfl rfl z.symm))]; exact q4, q5⟩
      | dc zs =>
        obtain ⟨q1, q2, q3, q4⟩ := this
        exact ⟨q1, q2, q3, by rw [upd_ne (fun z => q (s.lr.owns i j _ _ hi e' rfl rfl z.symm))]; exact q4⟩
  · have f : ∀ (a : Nat) zs, (ρ.set i (.dc ys))[a]? = some zs → zs.mine = true → ∃ zs', ρ[a]? = some zs' ∧ zs'.mine = true := fun a zs e m => by
      rcases get_set e with ⟨q, _⟩ | ⟨q, e'⟩
      · exact ⟨_, q ▸ hi, rfl⟩
      · exact ⟨zs, e', m⟩
    obtain ⟨_, z1, y1⟩ := f a _ e1 m1
    obtain ⟨_, z2, y2⟩ := f b _ e2 m2
    exact s.lr.owns a b _ _ z1 z2 y1 y2 e3
  · rcases get_set ej with ⟨q, _⟩ | ⟨q, e'⟩
    · exact s.ow j (.dc xs) (q ▸ hi) rfl
    · exact s.ow j _ e' m
def sDput (i : Nat) (fk fv : DL.X D) : Sm := fun ρ w => match ρ[i]? with
  | some (.dc kvs) => (fv ρ w).to ρ fun v w => (fk ρ w).to ρ fun k w => match k, v with
    | .int k, .int v => if decide (kvs.length < sizeLine) then .nx (ρ.set i (.dc (dcPut kvs k v))) w else .bad
    | _, _ => .bad
  | _ => .bad
theorem ds_dput {i : Nat} {o value : Expr} {fv : DL.X D} {pos' : Pos} (hu : X.A.units + 1 < cLine) (hx : PE X o (tVar i)) (he : DE κ W X RD e fk) (hv : DE κ W X RD value fv)
    (hs : swapsWith value (some (.Subscript o e pos')) pos.line X.env = pure false) : DS κ W X (.Assign [.Subscript o e pos'] value pos) (sDput i fk fv) :=
  PS.weak (ps_dput hu hx he hv hs) fun E σ H ⟨g0, F0, H0, g, F, own, ρ, w, s, p⟩ => by
  unfold sDput at p
  cases er : ρ[i]? with
  | none => rw [er] at p; exact p.elim
  | some t =>
    rw [er] at p
    cases t with
    | un => exact p.elim
    | d x => exact p.elim
    | own xs => exact p.elim
    | dc kvs =>
      refine ⟨g, F, own, ρ, w, s.lr, (po_to s p).mono fun dv g1 F1 w1 H1 e1 k1 p1 v hv => ?_⟩
      have p2 := p1 e1
      have s1 := s.ext e1 k1
      obtain ⟨h1, h2, h3, h4⟩ := s1.lr.slots i _ er
      refine ⟨_, h1, g1, F1, own, ρ, w1, s1.lr, (po_to s1 p2).mono fun dk g2 F2 w2 H2 e2 k2 p3 y hy => ?_⟩
      have p4 := p3 e2
      have s2 := s1.ext e2 k2
      cases dk with
      | int k =>
        cases dv with
        | int n =>
          dsimp only at p4
          split at p4
          · rename_i c
            have hl := of_decide_eq_true c
            obtain rfl : y = .int k := by cases hy; rfl
            obtain rfl : v = .int n := by cases hv; rfl
            have g0' := DPut.k (k := .inl k) (v := .int n) (e2.keep _ _ h4 h3) (by unfold dcT; rw [List.length_map]; exact hl)
            rw [← dcT_put] at g0'
            exact ⟨own i, _, rfl, g0', p4 g2 F2 own σ _ (s2.pokeD er)⟩
          · exact p4.elim
        | _ => exact p4.elim
      | _ => exact p4.elim
def xDNotIn (i : Nat) (fk : DL.X D) : DL.X D := fun ρ w => match ρ[i]? with
  | some (.dc kvs) => M.bind (fk ρ) (fun k => match k with
    | .int k => M.pure (.bool (!(dcVal kvs k).isSome))
    | _ => M.bad) w
  | _ => .bad
theorem de_din {i : Nat} {o : Expr} (hu : X.A.units + 1 < cLine) (hx : PE X o (tVar i)) (he : DE κ W X RD e fk) (hm : behindInMarks .In o = false) : DE κ W X RD (.Compare e [.In] [o] pos) (xDIn i fk) :=
  PE.weak (pe_cmp (pc_din hu he hx) hm) fun σ H Q ⟨g, F, own, ρ, w, r, p⟩ => by
  unfold xDIn at p
  cases er : ρ[i]? with
  | none => rw [er] at p; exact p.elim
  | some s =>
    rw [er] at p
    cases s with
    | un => exact p.elim
    | d x => exact p.elim
    | own xs => exact p.elim
    | dc kvs =>
      obtain ⟨h1, h2, h3, h4⟩ := r.slots i _ er
      refine ⟨g, F, own, ρ, w, r, (po_bind p).mono fun d g1 F1 w1 H1 e1 k1 p1 y hy => ⟨_, h1, ?_⟩⟩
      have p2 := p1 e1
      cases d with
      | int k =>
        dsimp only at p2
        obtain rfl : y = .int k := by cases hy; rfl
        have g0 := DGet.k (k := .inl k) (e1.keep _ _ h4 h3)
        rw [dcT_val] at g0
        refine ⟨own i, _, rfl, g0, po_ok p2 k1 _ ?_⟩
        rw [Option.isSome_map]
        exact .bl _
      | _ => exact p2.elim
theorem de_dnotin {i : Nat} {o : Expr} (hu : X.A.units + 1 < cLine) (hx : PE X o (tVar i)) (he : DE κ W X RD e fk) (hm : behindInMarks .NotIn o = false) : DE κ W X RD (.Compare e [.NotIn] [o] pos) (xDNotIn i fk) :=
  PE.weak (pe_cmp (pc_dnotin hu he hx) hm) fun σ H Q ⟨g, F, own, ρ, w, r, p⟩ => by
  unfold xDNotIn at p
  cases er : ρ[i]? with
  | none => rw [er] at p; exact p.elim
  | some s =>
    rw [er] at p
    cases s with
    | un => exact p.elim
    | d x => exact p.elim
    | own xs => exact p.elim
    | dc kvs =>
      obtain ⟨h1, h2, h3, h4⟩ := r.slots i _ er
      refine ⟨g, F, own, ρ, w, r, (po_bind p).mono fun d g1 F1 w1 H1 e1 k1 p1 y hy => ⟨_, h1, ?_⟩⟩
      have p2 := p1 e1
      cases d with
      | int k =>
        dsimp only at p2
        obtain rfl : y = .int k := by cases hy; rfl
        have g0 := DGet.k (k := .inl k) (e1.keep _ _ h4 h3)
        rw [dcT_val] at g0
        refine ⟨own i, _, rfl, g0, po_ok p2 k1 _ ?_⟩
        rw [Option.isSome_map]
        exact .bl _
      | _ => exact p2.elim
/-- a new dict becomes one's own -/
theorem Sr.setDc {g0 g : List Addr} {F0 H0 F H : Hp} {w : W'} {own : Nat → Addr} {ρ : List Slot} {σ : L2.St} (s : Sr κ g0 F0 H0 g F own ρ w σ H) {p : Addr} (hp : H p = none) {i : Nat} (kvs : List (Int × Int)) :
    ∃ own', Sr κ g0 F0 H0 g F own' (ρ.set i (.dc kvs)) w (σ.set i (some (.ref p))) (upd H p (.dK (dcT kvs))) := by
  have hg := (s.lr.wk.fresh hp).1
  have hF := (s.lr.wk.fresh hp).2
  have s2 := s.ext (Ext.hid (o := .dK (dcT kvs)) hp) (s.lr.wk.hid hg hF)
  have other : ∀ (j : Nat) t, ρ[j]? = some t → t.mine = true → own j ≠ p := s.lr.not_new hp
  refine ⟨fun j => if j = i then p else own j, ⟨s2.lr.wk, ?_, fun j t ej => ?_, fun a b ys zs h1 h2 m1 m2 h3 => ?_⟩, s2.ex, fun j ys ej m => ?_⟩
  · rw [List.length_set, List.length_set]; exact s.lr.len
  · rcases get_set ej with ⟨q, rfl⟩ | ⟨q, e'⟩
    · subst q
      have hi := set_get ej rfl
      refine ⟨?_, ?_, ?_, ?_⟩
      · rw [List.getElem?_set_self (by rw [← s.lr.len]; exact hi), if_pos rfl]
      · rw [if_pos rfl]; exact hF
      · rw [if_pos rfl]; exact hg
      · rw [if_pos rfl]; exact upd_same
    · have := s2.lr.slots j t e'
      rw [List.getElem?_set_ne q, if_neg (Ne.symm q)]
      exact this
  · rcases get_set h1 with ⟨q1, z1⟩ | ⟨q1, h1⟩
    · rcases get_set h2 with ⟨q2, z2⟩ | ⟨q2, h2⟩
      · rw [← q1, ← q2]
      · rw [if_pos q1.symm, if_neg (Ne.symm q2)] at h3
        exact absurd h3.symm (other b _ h2 m2)
    · rcases get_set h2 with ⟨q2, z2⟩ | ⟨q2, h2⟩
      · rw [if_pos q2.symm, if_neg (Ne.symm q1)] at h3
        exact absurd h3 (other a _ h1 m1)
      · rw [if_neg (Ne.symm q1), if_neg (Ne.symm q2)] at h3
        exact s.lr.owns a b _ _ h1 h2 m1 m2 h3
  · rcases get_set ej with ⟨q, z⟩ | ⟨q, e'⟩
    · rw [if_pos q.symm]
      exact s.ex.there p hp
    · rw [if_neg (Ne.symm q)]
      exact s.ow j ys e' m
/-- x = {} -/
def sDct (i : Nat) : Sm := fun ρ w => .nx (ρ.set i (.dc [])) w
theorem ds_dct {i : Nat} {x : Str} {pos' pos2 : Pos} (hN : X.N.Nodup) (hi : X.N[i]? = some x) (hx : Loc X.env.scope x) (hs : swapsWith (.Dict [] [] pos2) (some (.Name x pos')) pos.line X.env = pure false := by rfl)
    (hf : X.fn x = true ∨ X.env.scope.names.lookup x = some .local := by first | exact .inl rfl | exact .inr rfl | assumption) : DS κ W X (.Assign [.Name x pos'] (.Dict [] [] pos2) pos) (sDct i) :=
  PS.weak (ps_set hN hi hx pe_dnewK hs hf) fun E σ H ⟨g0, F0, H0, g, F, own, ρ, w, s, p⟩ => fun a ha => by
    obtain ⟨own', s'⟩ := s.setDc (i := i) ha []
    exact p g F own' _ _ s'
end
end DL

/-! {k: v} becomes one's own. -/
namespace DL
open PySem PySem.Spec PyProof.Rows L2
section
variable [Ec] {κ : Kn} {W : WX} {X : Cx} {e f : Expr} {fk fv : DL.X D} {pos : Pos}
theorem Ext.apart {g g' : List Addr} {F F' H H' : Hp} {p : Addr} {o : HO} (x : Ext g F H g' F' H') (h : H p = some o) (hg : p ∉ g) (hF : F p = none) : p ∉ g' ∧ F' p = none := by
  constructor
  · intro z
    rcases x.newg p z with y | y
    · exact hg y
    · rw [h] at y; cases y
  · cases q : F' p with
    | none => rfl
    | some o' => exact absurd hF (x.newF p (by rw [h]; exact fun z => nomatch z) (by rw [q]; exact fun z => nomatch z))
theorem Sr.setDk {g0 g : List Addr} {F0 H0 F H : Hp} {w : W'} {own : Nat → Addr} {ρ : List Slot} {σ : L2.St} (s : Sr κ g0 F0 H0 g F own ρ w σ H) {p : Addr} (hg : p ∉ g) (hF : F p = none) (h0 : H0 p = none)
    (other : ∀ (j : Nat) t, ρ[j]? = some t → t.mine = true → own j ≠ p) {i : Nat} (kvs : List (Int × Int)) :
    ∃ own', Sr κ g0 F0 H0 g F own' (ρ.set i (.dc kvs)) w (σ.set i (some (.ref p))) (upd H p (.dK (dcT kvs))) := by
  have l2 : Lr κ g F own ρ w σ (upd H p (.dK (dcT kvs))) := s.lr.hid hg hF other
  refine ⟨fun j => if j = i then p else own j, ⟨l2.wk, ?_, fun j t ej => ?_, fun a b ys zs h1 h2 m1 m2 h3 => ?_⟩, s.ex.poke h0, fun j ys ej m => ?_⟩
  · rw [List.length_set, List.length_set]; exact s.lr.len
  · rcases get_set ej with ⟨q, rfl⟩ | ⟨q, e'⟩
    · subst q
      have hi := set_get ej rfl
      refine ⟨?_, ?_, ?_, ?_⟩
      · rw [List.getElem?_set_self (by rw [← s.lr.len]; exact hi), if_pos rfl]
      · rw [if_pos rfl]; exact hF
      · rw [if_pos rfl]; exact hg
      · rw [if_pos rfl]; exact upd_same
    · have := l2.slots j t e'
      rw [List.getElem?_set_ne q, if_neg (Ne.symm q)]
      exact this
  · rcases get_set h1 with ⟨q1, z1⟩ | ⟨q1, h1⟩
    · rcases get_set h2 with ⟨q2, z2⟩ | ⟨q2, h2⟩
      · rw [← q1, ← q2]
      · rw [if_pos q1.symm, if_neg (Ne.symm q2)] at h3
        exact absurd h3.symm (other b _ h2 m2)
    · rcases get_set h2 with ⟨q2, z2⟩ | ⟨q2, h2⟩
      · rw [if_pos q2.symm, if_neg (Ne.symm q1)] at h3
        exact absurd h3 (other a _ h1 m1)
      · rw [if_neg (Ne.symm q1), if_neg (Ne.symm q2)] at h3
        exact s.lr.owns a b _ _ h1 h2 m1 m2 h3
  · rcases get_set ej with ⟨q, z⟩ | ⟨q, e'⟩
    · rw [if_pos q.symm]
      exact h0
    · rw [if_neg (Ne.symm q)]
      exact s.ow j ys e' m
def sDct1 (i : Nat) (fk fv : DL.X D) : Sm := fun ρ w => (fk ρ w).to ρ fun k w => (fv ρ w).to ρ fun v w => match k, v with
  | .int k, .int v => .nx (ρ.set i (.dc [(k, v)])) w
  | _, _ => .bad
theorem ds_dct1 {i : Nat} {x : Str} {pos' pos2 : Pos} (hN : X.N.Nodup) (hi : X.N[i]? = some x) (hx : Loc X.env.scope x) (he : DE κ W X RD e fk) (hf' : DE κ W X RD f fv) (hs : swapsWith (.Dict [some e] [f] pos2) (some (.Name x pos')) pos.line X.env = pure false)
    (hf : X.fn x = true ∨ X.env.scope.names.lookup x = some .local := by first | exact .inl rfl | exact .inr rfl | assumption) : DS κ W X (.Assign [.Name x pos'] (.Dict [some e] [f] pos2) pos) (sDct1 i fk fv) :=
  PS.weak (ps_set hN hi hx (pe_disp (pps_cons he hf' pps_nil) rfl rfl (by simp) (by simp)) hs hf) fun E σ H ⟨g0, F0, H0, g, F, own, ρ, w, s, p⟩ => fun a ha => by
    have hg := (s.lr.wk.fresh ha).1
    have hF := (s.lr.wk.fresh ha).2
    have other : ∀ (j : Nat) t, ρ[j]? = some t → t.mine = true → own j ≠ a := s.lr.not_new ha
    have h0 := s.ex.there a ha
    have s0 : Sr κ g0 F0 H0 g F own ρ w σ (upd H a (.dK [])) := s.ext (Ext.hid ha) (s.lr.wk.hid hg hF)
    refine ⟨g, F, own, ρ, w, s0.lr, (po_to s0 p).mono fun k g1 F1 w1 H1 e1 k1 p1 y hy => ?_⟩
    have p2 := p1 e1
    have s1 := s0.ext e1 k1
    have a1 := e1.apart upd_same hg hF
    have q1 := e1.keep _ _ upd_same hg
    refine ⟨g1, F1, own, ρ, w1, s1.lr, (po_to s1 p2).mono fun v g2 F2 w2 H2 e2 k2 p3 z hz => ?_⟩
    have p4 := p3 e2
    have s2 := s1.ext e2 k2
    have a2 := e2.apart q1 a1.1 a1.2
    have q2 := e2.keep _ _ q1 a1.1
    cases k with
    | int k =>
      cases v with
      | int n =>
        obtain rfl : y = .int k := by cases hy; rfl
        obtain rfl : z = .int n := by cases hz; rfl
        refine ⟨q2, [(.inl k, .int n)], rfl, by simp, ?_⟩
        obtain ⟨own', s'⟩ := s2.setDk (i := i) a2.1 a2.2 h0 other [(k, n)]
        exact p4 g2 F2 own' _ _ s'
      | _ => exact p4.elim
    | _ => exact p4.elim
end
end DL

/-! One list of ints below another; the values of a dict of one's own, by its keys. -/
namespace DL
open PySem PySem.Spec PyProof.Rows L2
/-! ### xs < ys -/
def ltR (a b : List Int) : Bool := !leR b a
theorem ltR_iff {a b : List Int} : ltR a b = decide (a < b) := by
  unfold ltR
  by_cases h : b ≤ a
  · rw [leR_iff.mpr h, decide_eq_false (List.not_lt.mpr h)]
    rfl
  · have h2 : leR b a = false := by
      cases q : leR b a with
      | false => rfl
      | true => exact absurd (leR_iff.mp q) h
    rw [h2, decide_eq_true (List.not_le.mp h)]
    rfl
def kLtL : D → D → M D
  | .list xs, .list ys => match intsOf xs with
    | some a => match intsOf ys with
      | some b => M.pure (.bool (ltR a b))
      | none => M.bad
    | none => M.bad
  | _, _ => M.bad
theorem pu_kLtL (a b : D) : Pu (kLtL a b) := by
  unfold kLtL
  split
  · split
    · split
      · exact pu_pure
      · exact pu_bad
    · exact pu_bad
  · exact pu_bad
def rLtD (K : PySem.W.Frag) : R2 := fun x y H Q => ∃ a b : List Int, Dp K H x (eR a) ∧ Dp K H y (eR b) ∧ Q (.bl (ltR a b)) H
theorem dataLt_eR (a b : List Int) : PySem.W.dataLt (eR a) (eR b) = ltR a b := by
  rw [ltR_iff]
  show PySem.W.dataLt (.list (a.map .int)) (.list (b.map .int)) = _
  rw [PySem.W.dataLt_list]
  exact PySem.W.dataLt_ints a b
theorem depth_eR (a : List Int) : (eR a).depth = 1 + 0 := by
  unfold eR
  simp only [PyData.depth]
  rw [depth_ints]
section
variable {X : Cx}
theorem op_ltD (hu : X.A.units + 65 < cLine) : OpR X (compareOp .Lt) (rLtD X.K) := by
  intro pins s σ H x y v u Q I rx ry h
  obtain ⟨a, b, ha, hb, q⟩ := h
  obtain ⟨as, ra⟩ := Dp.reads I _ _ _ ha rx
  obtain ⟨bs, rb⟩ := Dp.reads I _ _ _ hb ry
  refine PySem.W.lt_data ra rb (alike_eR a b) (fun z => nomatch z) (by rw [depth_eR, depth_eR]; omega) ?_
  rw [dataLt_eR]
  exact ⟨.bl _, H, I, rfl, q⟩
end
section
variable [Ec] {κ : Kn} {W : WX} {K : PySem.W.Frag}
theorem k_ltL : Op2 κ W K RV RV RD (rLtD K) kLtL := fun g F w H0 H1 H σ x y dx dy Q k hx hy p => by
  cases dx with
  | list xs =>
    cases dy with
    | list ys =>
      unfold kLtL at p
      dsimp only at p
      cases e1 : intsOf xs with
      | none => rw [e1] at p; exact p.elim
      | some a =>
        cases e2 : intsOf ys with
        | none => rw [e1, e2] at p; exact p.elim
        | some b =>
          rw [e1, e2] at p
          have q1 := intsOf_eq e1
          have q2 := intsOf_eq e2
          subst q1 q2
          exact ⟨a, b, hx.dp k (by rw [PyData.canLay0]; exact lay_ints a), hy.dp k (by rw [PyData.canLay0]; exact lay_ints b), po_fz p k (.bl _)⟩
    | _ => exact p.elim
  | _ => exact p.elim
end
theorem kLtL_l (a b : List Int) : kLtL (.list (dInts a)) (.list (dInts b)) = M.pure (.bool (ltR a b)) := by
  unfold kLtL
  dsimp only
  rw [intsOf_dInts, intsOf_dInts]
/-! ### [d[k] for k in d] -/
def dcVs (kvs : List (Int × Int)) : List Int := kvs.map fun p => (dcVal kvs p.1).getD 0
def xDVals (i j : Nat) : X D := fun ρ => match ρ[i]? with
  | some (.dc kvs) => chk (decide (j < ρ.length)) (chk (szOk kvs.length) (M.pure (.list (dInts (dcVs kvs)))))
  | _ => M.bad
theorem dcVal_mem {kvs : List (Int × Int)} {n : Nat} {p : Int × Int} (h : kvs[n]? = some p) : ∃ v, dcVal kvs p.1 = some v := by
  unfold dcVal
  cases e : kvs.find? fun q => decide (q.1 = p.1) with
  | none =>
    have := List.find?_eq_none.mp e p (List.mem_of_getElem? h)
    simp at this
  | some q => exact ⟨q.2, rfl⟩
section
variable [Ec] {κ : Kn} {W : WX} {X : Cx} {tg iter elt : Expr} {scope : Scope} {own : List (Str × Nat)} {pos : Pos}
theorem de_dvals {i j : Nat} (hc : X.calm = true) (hN : X.N.Nodup) (hij : i ≠ j) (hx : PE X iter (tVar i)) (ok : BlkOk X.N X.env.scope scope own) (hown : own.map (·.2) = [j])
    (hg : ∀ (s : Shared) (H : Hp) (C : Addr) (cl : List (Str × Addr)) (fp : List Addr), DG (X.blk s H scope (compEnvC scope cl C X.env) fp) tg (.nm j))
    (he : ∀ (s : Shared) (H : Hp) (C : Addr) (cl : List (Str × Addr)) (fp : List Addr), PE (X.blk s H scope (compEnvC scope cl C X.env) fp) elt (tDGet (tVar i) (tVar j)))
    (hs : ∀ x, foldedSetIterable iter X.env x = pure x := by intro _; rfl) :
    DE κ W X RN (.ListComp elt [⟨tg, iter, [], 0⟩] scope pos) (xDVals i j) :=
  PE.weak (pe_lock (pe_lc (g := putV (.nm j) X.K) hc hN (pi_keys hx) ok hg (fun _ _ _ _ _ => pts_nil) he hs)) fun σ H Q ⟨g, F, own', ρ, w, r, p⟩ => by
  unfold xDVals at p
  cases er : ρ[i]? with
  | none => rw [er] at p; exact p.elim
  | some s =>
    rw [er] at p
    cases s with
    | un => exact p.elim
    | d x => exact p.elim
    | own xs => exact p.elim
    | dc kvs =>
      dsimp only at p
      obtain ⟨hjl, p⟩ := po_chk p
      have hjl : j < σ.length := by rw [← r.len]; exact of_decide_eq_true hjl
      obtain ⟨hz, p⟩ := po_chk p
      have hz := of_decide_eq_true hz
      obtain ⟨h1, h2, h3, h4⟩ := r.slots i _ er
      rw [hown]
      refine ⟨own' i, .dK (dcT kvs), h4, True.intro, fun od => ⟨_, h1, own' i, od, rfl, .inl ⟨dcT kvs, upd_same, fun L hL => ?_⟩⟩⟩
      have hlen : (dcT kvs).length = kvs.length := by unfold dcT; rw [List.length_map]
      have nL : L ≠ own' i := fun z => by rw [z, upd_same] at hL; cases hL
      have hL0 : H L = none := by rw [upd_ne nL] at hL; exact hL
      refine ⟨fun n m H2 => m = kvs.length - n ∧ n ≤ kvs.length ∧ H2 = upd (upd H (own' i) (.frz od (.dK (dcT kvs)))) L (.lst (((dcVs kvs).map V.int).take n)), ⟨_, rfl, Nat.zero_le _, rfl⟩, ?_⟩
      rintro n m H2 ⟨rfl, hn, rfl⟩
      have hd : ∀ xs, (upd (upd H (own' i) (.frz od (.dK (dcT kvs)))) L (.lst xs)) (own' i) = some (.frz od (.dK (dcT kvs))) := fun xs => by rw [upd_ne (Ne.symm nL), upd_same]
      by_cases hlt : n < kvs.length
      · refine .inr ⟨⟨hd _, by rw [hlen]; exact hlt⟩, fun H' => H' = upd (upd H (own' i) (.frz od (.dK (dcT kvs)))) L (.lst (((dcVs kvs).map V.int).take (n + 1))), fun H' e => ⟨kvs.length - (n + 1), by omega, rfl, hlt, e⟩, ?_⟩
        rintro x H' ⟨rfl, k, v, ek, rfl⟩
        have en : kvs[n]? = some kvs[n] := List.getElem?_eq_getElem hlt
        obtain ⟨v', ev⟩ := dcVal_mem en
        have ek2 : k = .inl kvs[n].1 := by
          unfold dcT at ek
          rw [List.getElem?_map, en] at ek
          cases ek; rfl
        subst ek2
        have ejs : (wipe σ [j])[i]? = some (some (.ref (own' i))) := by rw [wipe_get, if_neg (fun z => hij (List.mem_singleton.mp z))]; exact h1
        refine ⟨?_, ⟨_, (by rw [List.getElem?_set_ne (Ne.symm hij)]; exact ejs), kV (.inl kvs[n].1), ?_, own' i, .int v', rfl, ?_, ((dcVs kvs).map V.int).take n, upd_same, ?_, ?_⟩⟩
        · apply List.ext_getElem?
          intro l
          rw [wipe_get, wipe_get]
          by_cases e : l ∈ [j]
          · rw [if_pos e, if_pos e]
            have e2 := List.mem_singleton.mp e
            subst e2
            rw [List.getElem?_set_self (by rw [wipe_length]; exact hjl), List.getElem?_eq_getElem hjl]
            rfl
          · rw [if_neg e, if_neg e, List.getElem?_set_ne (fun z => e (List.mem_singleton.mpr z.symm)), wipe_get, if_neg e]
        · rw [List.getElem?_set_self (by rw [wipe_length]; exact hjl)]
        · exact .inl ⟨dcT kvs, .inl kvs[n].1, .inr ⟨od, hd _⟩, rfl, by rw [dcT_val, ev]; rfl⟩
        · rw [List.length_take, List.length_map]
          unfold dcVs
          rw [List.length_map]
          omega
        · show upd (upd (upd H (own' i) (.frz od (.dK (dcT kvs)))) L (.lst (((dcVs kvs).map V.int).take n))) L (.lst (((dcVs kvs).map V.int).take n ++ [V.int v'])) = _
          have e3 : ((dcVs kvs).map V.int).take (n + 1) = ((dcVs kvs).map V.int).take n ++ [V.int v'] := by
            rw [List.take_add_one]
            congr 1
            unfold dcVs
            rw [List.getElem?_map, List.getElem?_map, en]
            show (some (V.int ((dcVal kvs kvs[n].1).getD 0))).toList = _
            rw [ev]
            rfl
          rw [e3]
          funext b
          by_cases q : b = L
          · subst q; rw [upd_same, upd_same]
          · rw [upd_ne q, upd_ne q, upd_ne q]
      · have e : n = kvs.length := by omega
        subst e
        refine .inl ⟨⟨hd _, by rw [hlen]; exact Nat.le_refl _⟩, hd _, ?_⟩
        have e4 : upd (upd (upd H (own' i) (.frz od (.dK (dcT kvs)))) L (.lst (((dcVs kvs).map V.int).take kvs.length))) (own' i) (.dK (dcT kvs)) = upd H L (.lst ((dcVs kvs).map V.int)) := by
          funext b
          have e5 : ((dcVs kvs).map V.int).take kvs.length = (dcVs kvs).map V.int := List.take_of_length_le (by unfold dcVs; rw [List.length_map, List.length_map]; exact Nat.le_refl _)
          rw [e5]
          by_cases q : b = own' i
          · subst q; rw [upd_same, upd_ne (Ne.symm nL), h4]
          · by_cases q2 : b = L
            · subst q2; rw [upd_ne q, upd_same, upd_same]
            · rw [upd_ne q, upd_ne q2, upd_ne q, upd_ne q2]
        rw [e4]
        exact po_list p r.wk hL0 (RpL.of_ints _)
end
end DL

/-! Shared objects: instances of the program's own class, lists within them. -/
namespace DL
open PySem PySem.Spec PyProof.Rows L2
/-- a shared object's number -/
def asH : D → Option Nat
  | .dict [(.int j, .none)] => some j.toNat
  | _ => none
theorem asH_hnd (i : Nat) : asH (hnd i) = some i := rfl
def kFld (f : Str) : D → M D := fun d w => match asH d with
  | some i => match w[i]? with
    | some (.ins fs) => match fs.lookup f with
      | some y => .ok y w
      | none => .bad
    | _ => .bad
  | none => .bad
def putD (f : Str) (d : D) : List (Str × D) → List (Str × D)
  | [] => [(f, d)]
  | (g, x) :: r => if g = f then (g, d) :: r else (g, x) :: putD f d r
def sPutF (f : Str) (fo fe : X D) : Sm := fun ρ w => (fe ρ w).to ρ fun d w => (fo ρ w).to ρ fun o w => match asH o with
  | some i => match w[i]? with
    | some (.ins fs) => if decide (fs.length < 1000) then .nx ρ (w.set i (.ins (putD f d fs))) else .bad
    | _ => .bad
  | none => .bad
def xShr (fe : X D) : X D := fun ρ w => match fe ρ w with
  | .ok (.list xs) w' => .ok (hnd w'.length) (w' ++ [.lst xs])
  | .err c w' => .err c w'
  | _ => .bad
def noFld (m : Str) : D → M Unit := fun d w => match asH d with
  | some i => match w[i]? with
    | some (.ins fs) => match fs.lookup m with
      | some _ => .bad
      | none => .ok () w
    | _ => .bad
  | none => .bad
def xMc (m : Str) (k : List D → M D) (fo : X D) (fs : X (List D)) : X D := fun ρ => M.bind (fo ρ) fun o => M.bind (noFld m o) fun _ => M.bind (fs ρ) fun ds => k (o :: ds)
def xMc0 (m : Str) (k : List D → M D) (fo : X D) : X D := fun ρ => M.bind (fo ρ) fun o => M.bind (noFld m o) fun _ => k [o]
def xMk (m : List D → M D) : X D := fun _ w => match m [hnd w.length] (w ++ [.ins []]) with
  | .ok .none w' => .ok (hnd w.length) w'
  | _ => .bad
def isLst : D → M Unit := fun d w => match asH d with
  | some i => match w[i]? with
    | some (.lst _) => .ok () w
    | _ => .bad
  | none => .bad
def putEnd (o d : D) : Sm := fun ρ w => match asH o with
  | some i => match w[i]? with
    | some (.lst xs) => if decide (xs.length < sizeLine) then .nx ρ (w.set i (.lst (xs ++ [d]))) else .bad
    | _ => .bad
  | none => .bad
def sAppH (fo fe : X D) : Sm := fun ρ w => (fo ρ w).to ρ fun o w => (isLst o w).to ρ fun _ w => (fe ρ w).to ρ fun d w => putEnd o d ρ w
def kPop : D → M D := fun d w => match asH d with
  | some i => match w[i]? with
    | some (.lst xs) => match xs[xs.length - 1]? with
      | some y => .ok y (w.set i (.lst xs.dropLast))
      | none => .bad
    | _ => .bad
  | none => .bad
def kEqH (a b : D) : M D := fun w => match asH a with
  | some i => match w[i]? with
    | some (.lst xs) => chk (SeqAt.shaped (.list xs) && SeqAt.shaped b) (M.pure (.bool (PyData.eqv (.list xs) b))) w
    | _ => .bad
  | none => .bad
section
variable [Ec] {κ : Kn} {W : WX} {X : Cx} {g g0 : List Addr} {F F0 H H0 : Hp} {w w' : W'} {own : Nat → Addr} {ρ : List Slot} {σ : L2.St}
theorem Rp.asH {v : V} {d : D} {i : Nat} (h : Rp g F v d) (e : DL.asH d = some i) : ∃ a, v = .ref a ∧ g[i]? = some a := by
  cases h with
  | @hn j a h =>
    rw [asH_hnd] at e
    cases e
    exact ⟨a, rfl, h⟩
  | exc _ => unfold exD DL.asH at e; cases e
  | _ => cases e
theorem Wk.cell (k : Wk κ g F w H) {i : Nat} {a : Addr} {c' : Cell} (ga : g[i]? = some a) {o : HO} (hc : CellOk κ g F (upd H a o) a c') : Wk κ g F (w.set i c') (upd H a o) where
  FH := fun b u e => by
    have nb : b ≠ a := fun z => by rw [z, k.gF a (List.mem_of_getElem? ga)] at e; cases e
    rw [upd_ne nb]; exact k.FH b u e
  gnd := k.gnd
  gF := k.gF
  gl := by rw [List.length_set]; exact k.gl
  cells := fun j c e => by
    rcases get_set e with ⟨q, rfl⟩ | ⟨q, e'⟩
    · subst q; exact ⟨a, ga, hc⟩
    · obtain ⟨b, gb, cb⟩ := k.cells j c e'
      have nb : b ≠ a := fun z => by subst z; exact q (nodup_at k.gnd ga gb)
      exact ⟨b, gb, cb.mono List.prefix_rfl (fun _ _ h => h) fun u z => by rw [upd_ne nb]; exact z⟩
theorem Ext.cell {a : Addr} {o o' : HO} (ga : a ∈ g) (h : H a = some o) : Ext g F H g F (upd H a o') where
  gg := List.prefix_rfl
  FF := fun _ _ h => h
  keep := fun b u e n => by rw [upd_ne (fun z => n (by rw [z]; exact ga))]; exact e
  there := fun b e => by
    by_cases q : b = a
    · subst q; rw [upd_same] at e; cases e
    · rw [upd_ne q] at e; exact e
  newF := fun _ _ h => h
  newg := fun _ h => .inl h
theorem Wk.share (k : Wk κ g F w H) {a : Addr} {c : Cell} (h : a ∉ g) (hF : F a = none) (ok : CellOk κ (g ++ [a]) F H a c) : Wk κ (g ++ [a]) F (w ++ [c]) H where
  FH := k.FH
  gnd := by
    rw [List.nodup_append]
    refine ⟨k.gnd, by simp, fun x hx y hy z => ?_⟩
    rw [List.mem_singleton] at hy
    exact h (by rw [← hy, ← z]; exact hx)
  gF := fun b hb => by
    rcases List.mem_append.mp hb with q | q
    · exact k.gF b q
    · rw [List.mem_singleton.mp q]; exact hF
  gl := by rw [List.length_append, List.length_append, k.gl]; rfl
  cells := fun j c' e => by
    by_cases hj : j < w.length
    · rw [List.getElem?_append_left hj] at e
      obtain ⟨b, gb, cb⟩ := k.cells j c' e
      exact ⟨b, pre_get (List.prefix_append g [a]) gb, cb.mono (List.prefix_append g [a]) (fun _ _ h => h) fun _ z => z⟩
    · rw [List.getElem?_append_right (by omega)] at e
      have hj2 : j = w.length := by
        have := (List.getElem?_eq_some_iff.mp e).1
        simp at this
        omega
      subst hj2
      rw [Nat.sub_self] at e
      cases e
      exact ⟨a, by rw [← k.gl, List.getElem?_append_right (Nat.le_refl _), Nat.sub_self]; rfl, ok⟩
theorem Ext.share {a : Addr} (e : Ext g0 F0 H0 g F H) (h : H0 a = none) : Ext g0 F0 H0 (g ++ [a]) F H where
  gg := e.gg.trans (List.prefix_append g [a])
  FF := e.FF
  keep := e.keep
  there := e.there
  newF := e.newF
  newg := fun b hb => by
    rcases List.mem_append.mp hb with q | q
    · exact e.newg b q
    · rw [List.mem_singleton.mp q]; exact .inr h
abbrev FR (g : List Addr) (F : Hp) : Str × V → Str × D → Prop := fun p q => p.1 = q.1 ∧ Rp g F p.2 q.2
theorem fr_lookup {f : Str} {vs : List (Str × V)} {fs : List (Str × D)} (h : Paired (FR g F) vs fs) : (∀ y, fs.lookup f = some y → ∃ v, vs.lookup f = some v ∧ Rp g F v y) ∧ (fs.lookup f = none → vs.lookup f = none) := by
  induction h with
  | nil => exact ⟨fun y h => (by cases h), fun _ => rfl⟩
  | @cons p q vs fs h t ih =>
    obtain ⟨a, v⟩ := p
    obtain ⟨b, d⟩ := q
    obtain ⟨e, r⟩ := h
    dsimp only at e r
    subst e
    obtain ⟨i1, i2⟩ := ih
    constructor
    · intro y hy
      rw [List.lookup_cons] at hy ⊢
      cases q : f == a with
      | true => rw [q] at hy; cases hy; exact ⟨v, rfl, r⟩
      | false => rw [q] at hy; exact i1 y hy
    · intro hy
      rw [List.lookup_cons] at hy ⊢
      cases q : f == a with
      | true => rw [q] at hy; cases hy
      | false => rw [q] at hy; exact i2 hy
theorem fr_put {f : Str} {v : V} {d : D} (hv : Rp g F v d) : ∀ {vs : List (Str × V)} {fs : List (Str × D)}, Paired (FR g F) vs fs → Paired (FR g F) (putF f v vs) (putD f d fs)
  | _, _, .nil => .cons ⟨rfl, hv⟩ .nil
  | (a, x) :: vs, (b, y) :: fs, .cons h t => by
    obtain ⟨e, r⟩ := h
    dsimp only at e r
    subst e
    unfold putF putD
    by_cases q : a = f
    · rw [if_pos q, if_pos q]; exact .cons ⟨rfl, hv⟩ t
    · rw [if_neg q, if_neg q]; exact .cons ⟨rfl, r⟩ (fr_put hv t)
theorem ins_at (k : Wk κ g F w H) {v : V} {d : D} {i : Nat} {fs : List (Str × D)} (hv : Rp g F v d) (e : DL.asH d = some i) (hi : w[i]? = some (.ins fs)) : ∃ a dx vs, v = .ref a ∧ g[i]? = some a ∧ H a = some (.ins κ.sc dx vs) ∧ Paired (FR g F) vs fs := by
  obtain ⟨a, rfl, ga⟩ := hv.asH e
  obtain ⟨b, gb, dx, vs, h1, h2⟩ := k.cells i _ hi
  rw [ga] at gb
  cases gb
  exact ⟨a, dx, vs, rfl, ga, h1, h2⟩
theorem lst_at (k : Wk κ g F w H) {v : V} {d : D} {i : Nat} {xs : List D} (hv : Rp g F v d) (e : DL.asH d = some i) (hi : w[i]? = some (.lst xs)) : ∃ a vs, v = .ref a ∧ g[i]? = some a ∧ H a = some (.lst vs) ∧ RpL g F vs xs := by
  obtain ⟨a, rfl, ga⟩ := hv.asH e
  obtain ⟨b, gb, vs, h1, h2⟩ := k.cells i _ hi
  rw [ga] at gb
  cases gb
  exact ⟨a, vs, rfl, ga, h1, h2⟩
theorem kFld_inv {f : Str} {d : D} (h : kFld f d w ≠ .bad) : ∃ i fs y, DL.asH d = some i ∧ w[i]? = some (.ins fs) ∧ fs.lookup f = some y ∧ kFld f d w = .ok y w := by
  unfold kFld at h ⊢
  split at h
  · rename_i i ei
    rw [ei]
    try dsimp only
    split at h
    · rename_i fs ew
      try rw [ew]
      try dsimp only
      split at h
      · rename_i y ey
        try rw [ey]
        exact ⟨i, fs, y, rfl, ew, ey, rfl⟩
      · exact absurd rfl h
    · exact absurd rfl h
  · exact absurd rfl h
theorem noFld_inv {f : Str} {d : D} (h : noFld f d w ≠ .bad) : ∃ i fs, DL.asH d = some i ∧ w[i]? = some (.ins fs) ∧ fs.lookup f = none ∧ noFld f d w = .ok () w := by
  unfold noFld at h ⊢
  split at h
  · rename_i i ei
    rw [ei]
    try dsimp only
    split at h
    · rename_i fs ew
      try rw [ew]
      try dsimp only
      split at h
      · exact absurd rfl h
      · rename_i ey
        try rw [ey]
        exact ⟨i, fs, rfl, ew, ey, rfl⟩
    · exact absurd rfl h
  · exact absurd rfl h
theorem isLst_inv {d : D} (h : isLst d w ≠ .bad) : ∃ i xs, DL.asH d = some i ∧ w[i]? = some (.lst xs) ∧ isLst d w = .ok () w := by
  unfold isLst at h ⊢
  split at h
  · rename_i i ei
    rw [ei]
    try dsimp only
    split at h
    · rename_i xs ew
      try rw [ew]
      exact ⟨i, xs, rfl, ew, rfl⟩
    · exact absurd rfl h
  · exact absurd rfl h
theorem kPop_inv {d : D} (h : kPop d w ≠ .bad) : ∃ i xs y, DL.asH d = some i ∧ w[i]? = some (.lst xs) ∧ xs[xs.length - 1]? = some y ∧ kPop d w = .ok y (w.set i (.lst xs.dropLast)) := by
  unfold kPop at h ⊢
  split at h
  · rename_i i ei
    rw [ei]
    try dsimp only
    split at h
    · rename_i xs ew
      try rw [ew]
      try dsimp only
      split at h
      · rename_i y ey
        try rw [ey]
        exact ⟨i, xs, y, rfl, ew, ey, rfl⟩
      · exact absurd rfl h
    · exact absurd rfl h
  · exact absurd rfl h
variable {o e : Expr} {fo fe : DL.X D} {f m : Str} {pos : Pos}
theorem de_fld (c : Cls X.K κ.sc) (n : NoAttr X.K κ.sc f) (ho : DE κ W X RD o fo) (hb : attributeBase o f X.env (eval o X.env) = eval o X.env := by rfl) : DE κ W X RD (.Attribute o f pos) (x1 (kFld f) fo) :=
  PE.weak (pe_fld ho hb) fun σ H Q ⟨g, F, own, ρ, w, r, p⟩ => by
    refine ⟨g, F, own, ρ, w, r, (po_bind p).mono fun d g1 F1 w1 H1 e1 k1 p1 v hv => ?_⟩
    have p2 := p1 e1
    obtain ⟨i, fs, y, ei, ew, ey, eq⟩ := kFld_inv (po_ne p2)
    rw [eq] at p2
    obtain ⟨a, dx, vs, rfl, ga, hH, hp⟩ := ins_at k1 hv ei ew
    obtain ⟨u, hu, hr⟩ := (fr_lookup hp).1 y ey
    exact ⟨a, κ.sc, dx, vs, u, rfl, hH, c, n, hu, po_ok p2 k1 u hr⟩
theorem ds_fld {pos' : Pos} (c : Cls X.K κ.sc) (n : NoAttr X.K κ.sc f) (ho : DE κ W X RD o fo) (he : DE κ W X RD e fe) (hs : swapsWith e (some (.Attribute o f pos')) pos.line X.env = pure false := by rfl) : DS κ W X (.Assign [.Attribute o f pos'] e pos) (sPutF f fo fe) :=
  PS.weak (ps_fld ho he hs) fun E σ H ⟨g0, F0, H0, g, F, own, ρ, w, s, p⟩ => by
    refine ⟨g, F, own, ρ, w, s.lr, (po_to s p).mono fun d g1 F1 w1 H1 e1 k1 p1 v hv => ?_⟩
    have s1 := s.ext e1 k1
    refine ⟨g1, F1, own, ρ, w1, s1.lr, (po_to s1 (p1 e1)).mono fun o' g2 F2 w2 H2 e2 k2 p2 x hx => ?_⟩
    have p3 := p2 e2
    have s2 := s1.ext e2 k2
    split at p3
    · rename_i i ei
      split at p3
      · rename_i fs ew
        split at p3
        · rename_i hl
          have hl := of_decide_eq_true hl
          obtain ⟨a, dx, vs, rfl, ga, hH, hp⟩ := ins_at k2 hx ei ew
          refine ⟨a, κ.sc, dx, vs, rfl, hH, c, n, by rw [hp.length]; exact hl, ?_⟩
          exact p3 g2 F2 own σ _ (s2.ext (Ext.cell (List.mem_of_getElem? ga) hH) (k2.cell ga ⟨dx, _, upd_same, fr_put (hv.mono e2.gg e2.FF) hp⟩))
        · exact p3.elim
      · exact p3.elim
    · exact p3.elim
/-- a list just made is shared from now on -/
theorem de_shr (he : DE κ W X RN e fe) : DE κ W X RD e (xShr fe) := PE.weak he fun σ H Q ⟨g, F, own, ρ, w, r, p⟩ => by
  refine ⟨g, F, own, ρ, w, r, ?_⟩
  unfold xShr at p
  cases e : fe ρ w with
  | ok d w' =>
    rw [e] at p
    cases d with
    | list xs =>
      intro g' F' H' x k v hv
      obtain ⟨a, vs, ds, rfl, ed, h0, hF, hg, hH, hr⟩ := hv
      cases ed
      exact p (g' ++ [a]) F' H' (x.share h0) (k.share hg hF ⟨vs, hH, hr.mono (List.prefix_append g' [a]) fun _ _ z => z⟩) (.ref a) (.hn (by rw [← k.gl, List.getElem?_append_right (Nat.le_refl _), Nat.sub_self]; rfl))
    | _ => exact p.elim
  | err c w' => rw [e] at p; exact p
  | bad => rw [e] at p; exact p.elim
/-- xs.append(e), xs a shared list -/
theorem ds_appH {apos cpos : Pos} (ho : DE κ W X RD o fo) (he : DE κ W X RD e fe)
    (hbase : attributeBase o "append" X.env (eval o X.env) = eval o X.env := by rfl)
    (hfew : ((backTo cpos (starEach [e] X.env)).all (fun x => !x.1) && (backToKw cpos (keywordEach [] X.env)).all (fun x => x.1.isSome)
      && decide ([e].length + ([] : List Keyword).length + (if ([] : List Keyword).isEmpty then 0 else 1) < 30)) = true := by rfl)
    (hline : (apos.endLine == cpos.line) = true := by rfl) (hs : starEach [e] X.env = (false, eval e X.env) :: starEach [] X.env := by rfl) (hplain : (backTo cpos (starEach [] X.env)).any (·.1) = false := by rfl)
    (hsw : swapsWith (.Call (.Attribute o "append" apos) [e] [] cpos) none pos.line X.env = pure false := by rfl) :
    DS κ W X (.Expr (.Call (.Attribute o "append" apos) [e] [] cpos) pos) (sAppH fo fe) :=
  PS.weak (ps_expr (pe_bm PySem.F.plainAttrs_list PySem.F.slot_list_append PySem.F.type_list_append mt_append ho (pa_cons he pa_nil hs) hbase hfew hline hs hplain) hsw) fun E σ H ⟨g0, F0, H0, g, F, own, ρ, w, s, p⟩ => by
    refine ⟨g, F, own, ρ, w, s.lr, (po_to s p).mono fun o' g1 F1 w1 H1 e1 k1 p1 x hx => ?_⟩
    have s1 := s.ext e1 k1
    have p2 := po_to s1 (p1 e1)
    obtain ⟨i, xs, ei, ew, eq⟩ := isLst_inv (po_ne p2)
    rw [eq] at p2
    have p3 := po_ok p2 k1 (Ext.refl _ _ _)
    obtain ⟨a, vs, rfl, ga, hH, hr⟩ := lst_at k1 hx ei ew
    refine ⟨.inl ⟨rfl, vs, SqL.of hH⟩, g1, F1, own, ρ, w1, s1.lr, (po_to s1 p3).mono fun d g2 F2 w2 H2 e2 k2 p4 v hv => ?_⟩
    have p5 := p4 e2
    have s2 := s1.ext e2 k2
    have hx2 : Rp g2 F2 (.ref a) o' := hx.mono e2.gg e2.FF
    unfold putEnd at p5
    rw [ei] at p5
    dsimp only at p5
    split at p5
    · rename_i ys ey
      split at p5
      · rename_i hl
        have hl := of_decide_eq_true hl
        obtain ⟨b, us, eb, gb, hB, rb⟩ := lst_at k2 hx2 ei ey
        cases eb
        refine ⟨a, us, v, rfl, rfl, hB, by rw [rb.length]; exact hl, ?_⟩
        exact p5 g2 F2 own σ _ (s2.ext (Ext.cell (List.mem_of_getElem? gb) hB) (k2.cell gb ⟨_, upd_same, rb.append (.cons hv .nil)⟩))
      · exact p5.elim
    · exact p5.elim
/-- xs.pop(), xs a shared list -/
theorem de_popH {apos cpos : Pos} (ho : DE κ W X RD o fo) (hbase : attributeBase o "pop" X.env (eval o X.env) = eval o X.env := by rfl)
    (hline : (apos.endLine == cpos.line) = true := by rfl) : DE κ W X RD (.Call (.Attribute o "pop" apos) [] [] cpos) (x1 kPop fo) :=
  PE.weak (pe_bm0 PySem.F.plainAttrs_list PySem.F.slot_list_pop PySem.F.type_list_pop mt_pop ho hbase hline) fun σ H Q ⟨g, F, own, ρ, w, r, p⟩ => by
    refine ⟨g, F, own, ρ, w, r, (po_bind p).mono fun d g1 F1 w1 H1 e1 k1 p1 v hv => ?_⟩
    have p2 := p1 e1
    obtain ⟨i, xs, y, ei, ew, ey, eq⟩ := kPop_inv (po_ne p2)
    rw [eq] at p2
    obtain ⟨a, vs, rfl, ga, hH, hr⟩ := lst_at k1 hv ei ew
    obtain ⟨u, hu, ru⟩ := hr.get ey
    refine ⟨.inl ⟨rfl, vs, SqL.of hH⟩, a, vs, u, rfl, rfl, hH, by rw [hr.length]; exact hu, ?_⟩
    have hd : RpL g1 F1 vs.dropLast xs.dropLast := by
      rw [List.dropLast_eq_take, List.dropLast_eq_take, hr.length]
      exact hr.take _
    exact p2 g1 F1 _ (Ext.cell (List.mem_of_getElem? ga) hH) (k1.cell ga ⟨_, upd_same, hd⟩) u ru
theorem k_eqH {K : PySem.W.Frag} : Op2 κ W K RD RV RD (rEqD K) kEqH := fun g F w H0 H1 H σ x y dx dy Q k hx hy p => by
  unfold kEqH at p
  split at p
  · rename_i i ei
    split at p
    · rename_i xs ew
      obtain ⟨c, p⟩ := po_chk p
      rw [Bool.and_eq_true] at c
      obtain ⟨a, vs, rfl, ga, hH, hr⟩ := lst_at k hx ei ew
      exact ⟨.list xs, dy, .lst (SqL.of hH) (hr.dp k.FH (by have := shaped_lay c.1; simpa [PyData.canLay0] using this)), hy.dp k (shaped_lay c.2), c.1, c.2, po_fz p k (.bl _)⟩
    · exact p.elim
  · exact p.elim
/-! ### methods -/
def Met (P : Program) (w : World) (K : PySem.W.Frag) (mg : Str → Option Value) (base : Heap) (κ : Kn) (x : Str) (k n : Nat) (m : List D → M D) : Prop :=
  ∃ (f : Addr) (fd : FuncData) (ps : List Str), FnOk P w K mg base (L2.CX P w) k f fd ps (spD κ n m) ∧ Meth K κ.sc x f ∧ Binds K fd ps []
theorem Met.of {P : Program} {w : World} {K : PySem.W.Frag} {mg : Str → Option Value} {base : Heap} {x : Str} {f : Addr} {fd : FuncData} {ps : List Str} {k n : Nat} {m : List D → M D} (hm : Meth K κ.sc x f) (hb : Binds K fd ps []) (h : FnOk P w K mg base (L2.CX P w) k f fd ps (spD κ n m)) : Met P w K mg base κ x k n m := ⟨f, fd, ps, h, hm, hb⟩
def tMethS (C : Addr) (m : Str) (sp : Sp) (E : L2.St → XK) (ta : TE) (t : TA) : TE := fun σ H Q => ta σ H fun x H1 => ∃ a dx fs, x = .ref a ∧ H1 a = some (.ins C dx fs) ∧ fs.lookup m = none ∧
  t σ H1 fun vs H2 => sp (x :: vs) H2 Q (E σ)
section
variable {CX : CXT} {k : Nat} {fa C : Addr} {fd : FuncData} {ps : List Str} {sp : Sp} {E : L2.St → XK} {apos : Pos} {es : List Expr} {ta : TE} {t : TA}
theorem pe_methS {pl : Sem Bool} (he : PE X o ta) (c : Cls X.K C) (hm : Meth X.K C m fa) (F : FnOk X.prog X.w X.K X.mg X.base CX k fa fd ps sp) (hr : Room k X.A) (hb : Binds X.K fd ps []) (hx : ∀ σ, PassesAt CX X σ (E σ)) (ha : PA X (e :: es) t)
    (hst : starEach (e :: es) X.env = (false, eval e X.env) :: starEach es X.env := by rfl) (hpl : (backTo pos (starEach es X.env)).any (·.1) = false := by rfl)
    (ht : eval (.Call (.Attribute o m apos) (e :: es) [] pos) X.env = (do
      let ov ← eval o X.env
      standAt apos.atName
      let (f, first) ← holding [ov] (getMethod ov m pl)
      callWith pos f first (backTo pos (starEach (e :: es) X.env)) (backToKw pos (keywordEach [] X.env))) := by rfl) :
    PE X (.Call (.Attribute o m apos) (e :: es) [] pos) (tMethS C m sp E ta t) := by
  refine ⟨fun pins s σ H Q I h => ?_⟩
  refine PySem.W.methodCall_KW (pl := pl) (thn (he.run pins s σ H _ I h) fun u s1 ⟨x, H1, I1, rx, a, dx, fs, ex, ea, l, q⟩ => ?_) ht
  subst ex
  obtain rfl : u = Value.ref a := rx
  refine getmeth_ok I1 ea c hm l ?_
  refine PySem.W.callWith_K (first := [.ref a]) (h₀ := X.base) I.ok.mod.kin hm.kp (thn (ha.run pos pins s1 σ H1 _ I1 q) fun us s2 ⟨vs, H2, I2, r, q2⟩ => ⟨I2.kIn, ?_⟩) hst hpl
  exact run_fnS (us := .ref a :: us) (vs := .ref a :: vs) F hr hb (hx σ) I2 (.cons rfl r) q2
theorem pe_methS0 {pl : Sem Bool} (he : PE X o ta) (c : Cls X.K C) (hm : Meth X.K C m fa) (F : FnOk X.prog X.w X.K X.mg X.base CX k fa fd ps sp) (hr : Room k X.A) (hb : Binds X.K fd ps []) (hx : ∀ σ, PassesAt CX X σ (E σ))
    (ht : eval (.Call (.Attribute o m apos) [] [] pos) X.env = (do
      let ov ← eval o X.env
      standAt apos.atName
      let (f, first) ← holding [ov] (getMethod ov m pl)
      callWith pos f first (backTo pos (starEach [] X.env)) (backToKw pos (keywordEach [] X.env))) := by rfl) :
    PE X (.Call (.Attribute o m apos) [] [] pos) (tMethS C m sp E ta tNil) := by
  refine ⟨fun pins s σ H Q I h => ?_⟩
  refine PySem.W.methodCall_KW (pl := pl) (thn (he.run pins s σ H _ I h) fun u s1 ⟨x, H1, I1, rx, a, dx, fs, ex, ea, l, q⟩ => ?_) ht
  subst ex
  obtain rfl : u = Value.ref a := rx
  refine getmeth_ok I1 ea c hm l ?_
  exact PySem.W.callWith_K0 (first := [.ref a]) I1.kIn hm.kp (run_fnS (us := [.ref a]) (vs := [.ref a]) F hr hb (hx σ) I1 (.cons rfl .nil) q)
end
section
variable {Rs : List RelE} {es : List Expr} {fs : DL.X (List D)} {apos : Pos} {pl : Sem Bool} {k j n : Nat} {mk : List D → M D}
theorem de_mc [AllD Rs] (c : Met X.prog X.w X.K X.mg X.base κ m k (n + 1) mk) (hr : Room j X.A) (hk : k ≤ j) (tk : Takes X W) (hc : Cls X.K κ.sc) (ho : DE κ W X RD o fo) (ha : DA κ W X Rs (e :: es) fs) (hn : Rs.length = n := by rfl)
    (hst : starEach (e :: es) X.env = (false, eval e X.env) :: starEach es X.env := by rfl) (hpl : (backTo pos (starEach es X.env)).any (·.1) = false := by rfl)
    (ht : eval (.Call (.Attribute o m apos) (e :: es) [] pos) X.env = (do
      let ov ← eval o X.env
      standAt apos.atName
      let (f, first) ← holding [ov] (getMethod ov m pl)
      callWith pos f first (backTo pos (starEach (e :: es) X.env)) (backToKw pos (keywordEach [] X.env))) := by rfl) :
    DE κ W X RD (.Call (.Attribute o m apos) (e :: es) [] pos) (xMc m mk fo fs) := by
  obtain ⟨f, fd, ps, Fk, hm, hb⟩ := c
  refine PE.weak (pe_methS (E := WE W) ho hc hm Fk (hr.mono hk) hb (fun σ => passAt tk σ) ha hst hpl ht) fun σ H Q ⟨g, F, own, ρ, w, lr, p⟩ => ?_
  refine ⟨g, F, own, ρ, w, lr, (po_bind p).mono fun d g1 F1 w1 H1 e1 k1 p1 v hv => ?_⟩
  have p2 := po_bind (p1 e1)
  obtain ⟨i, fs', ei, ew, el, eq⟩ := noFld_inv (po_ne p2)
  rw [eq] at p2
  obtain ⟨a, dx, vs, rfl, ga, hH, hp⟩ := ins_at k1 hv ei ew
  refine ⟨a, dx, vs, rfl, hH, (fr_lookup hp).2 el, ?_⟩
  have p3 := po_ok p2 k1 (Ext.refl _ _ _)
  refine ⟨g1, F1, own, ρ, w1, lr.ext e1 k1, (po_bind p3).mono fun ds g2 F2 w2 H2 e2 k2 p4 us hu => ?_⟩
  exact ⟨g2, F2, w2, d :: ds, k2, .cons (hv.mono e2.gg e2.FF) (AllD.to hu), by rw [List.length_cons, ← (AllD.to hu).length, AllD.n hu, hn], po_W (p4 e2)⟩
theorem de_mc0 (c : Met X.prog X.w X.K X.mg X.base κ m k 1 mk) (hr : Room j X.A) (hk : k ≤ j) (tk : Takes X W) (hc : Cls X.K κ.sc) (ho : DE κ W X RD o fo)
    (ht : eval (.Call (.Attribute o m apos) [] [] pos) X.env = (do
      let ov ← eval o X.env
      standAt apos.atName
      let (f, first) ← holding [ov] (getMethod ov m pl)
      callWith pos f first (backTo pos (starEach [] X.env)) (backToKw pos (keywordEach [] X.env))) := by rfl) :
    DE κ W X RD (.Call (.Attribute o m apos) [] [] pos) (xMc0 m mk fo) := by
  obtain ⟨f, fd, ps, Fk, hm, hb⟩ := c
  refine PE.weak (pe_methS0 (E := WE W) ho hc hm Fk (hr.mono hk) hb (fun σ => passAt tk σ) ht) fun σ H Q ⟨g, F, own, ρ, w, lr, p⟩ => ?_
  refine ⟨g, F, own, ρ, w, lr, (po_bind p).mono fun d g1 F1 w1 H1 e1 k1 p1 v hv => ?_⟩
  have p2 := po_bind (p1 e1)
  obtain ⟨i, fs', ei, ew, el, eq⟩ := noFld_inv (po_ne p2)
  rw [eq] at p2
  obtain ⟨a, dx, vs, rfl, ga, hH, hp⟩ := ins_at k1 hv ei ew
  refine ⟨a, dx, vs, rfl, hH, (fr_lookup hp).2 el, ?_⟩
  have p3 := po_ok p2 k1 (Ext.refl _ _ _)
  exact ⟨g1, F1, w1, [d], k1, .cons hv .nil, rfl, po_W p3⟩
end
/-! ### C() -/
def MkC (P : Program) (w : World) (K : PySem.W.Frag) (mg : Str → Option Value) (base : Heap) (κ : Kn) (x : Str) (k : Nat) (m : List D → M D) : Prop :=
  ∃ (f : Addr) (fd : FuncData) (ps : List Str), FnOk P w K mg base (L2.CX P w) k f fd ps (spD κ 1 m) ∧ L2.Mk K κ.sc f ∧ mg x = some (.ref κ.sc) ∧ Binds K fd ps []
theorem passF : Passes (L2.CX X.prog X.w) X (fun _ _ _ => False) := fun _ _ _ _ _ _ _ h => by
  obtain ⟨_, _, _, _, _, _, _, _, _, _, _, _, z⟩ := h
  exact z.elim
theorem de_mk {x : Str} {p : Pos} {k j : Nat} {mk : List D → M D} (c : MkC X.prog X.w X.K X.mg X.base κ x k mk) (hr : Room j X.A) (hk : k + 1 ≤ j) (hg : Gl X x) (hdb : (x == ("__debug__" : Str)) = false := by decide) : DE κ W X RD (.Call (.Name x p) [] [] pos) (xMk mk) := by
  obtain ⟨f, fd, ps, Fk, hm, hmg, hb⟩ := c
  refine PE.weak (pe_make0 hm Fk (hr.mono hk) hg hmg hb .nil passF hdb) fun σ H Q ⟨g, F, own, ρ, w, lr, p⟩ => ?_
  intro x dx hx hdx nex
  have nx1 : (upd H dx (.own x)) x = none := by rw [upd_ne (Ne.symm nex)]; exact hx
  have fd := lr.wk.fresh hdx
  have k1 := lr.wk.hid (o := .own x) fd.1 fd.2
  have fx := k1.fresh nx1
  have k2 := k1.hid (o := .ins κ.sc dx []) fx.1 fx.2
  have k3 := k2.share (c := .ins []) fx.1 fx.2 ⟨dx, [], upd_same, .nil⟩
  have e2 : Ext g F H g F (upd (upd H dx (.own x)) x (.ins κ.sc dx [])) := (Ext.hid hdx).trans (Ext.hid nx1)
  have e3 := e2.share (a := x) hx
  have hgx : (g ++ [x])[w.length]? = some x := by rw [← lr.wk.gl, List.getElem?_append_right (Nat.le_refl _), Nat.sub_self]; rfl
  refine ⟨g ++ [x], F, w ++ [.ins []], [hnd w.length], k3, .cons (.hn hgx) .nil, rfl, ?_⟩
  unfold xMk at p
  cases em : mk [hnd w.length] (w ++ [.ins []]) with
  | ok d w' =>
    rw [em] at p
    cases d with
    | none =>
      intro g' F' H' y ky v hv
      cases hv
      exact ⟨rfl, p g' F' H' (e3.trans y) ky _ (.hn (pre_get y.gg hgx))⟩
    | _ => exact p.elim
  | err c w' => rw [em] at p; exact p.elim
  | bad => rw [em] at p; exact p.elim
end
end DL

/-! Dicts of one's own: tests, purity, rewriting. -/
namespace DL
open PySem PySem.Spec PyProof.Rows L2
theorem hu1 {n : Nat} (h : n + 65 < cLine) : n + 1 < cLine := by omega
section
variable [Ec] {κ : Kn} {W : WX} {X : Cx} {R : RelE} {e : Expr} {fk : DL.X D} {pos : Pos}
theorem din_read [Fz R] {i : Nat} {σ : L2.St} {H : Hp} {Q : VK} (h : tE κ W R (xDIn i fk) σ H Q) : tDIn (tE κ W RD fk) (tVar i) σ H Q := by
  obtain ⟨g, F, own, ρ, w, r, p⟩ := h
  unfold xDIn at p
  cases er : ρ[i]? with
  | none => rw [er] at p; exact p.elim
  | some s =>
    rw [er] at p
    cases s with
    | un => exact p.elim
    | d x => exact p.elim
    | own xs => exact p.elim
    | dc kvs =>
      obtain ⟨h1, h2, h3, h4⟩ := r.slots i _ er
      refine ⟨g, F, own, ρ, w, r, (po_bind p).mono fun d g1 F1 w1 H1 e1 k1 p1 y hy => ⟨_, h1, ?_⟩⟩
      have p2 := p1 e1
      cases d with
      | int k =>
        dsimp only at p2
        obtain rfl : y = .int k := by cases hy; rfl
        have g0 := DGet.k (k := .inl k) (e1.keep _ _ h4 h3)
        rw [dcT_val] at g0
        refine ⟨own i, _, rfl, g0, po_ok p2 k1 _ ?_⟩
        rw [Option.isSome_map]
        exact Fz.fz (.bl _)
      | _ => exact p2.elim
theorem dnotin_read [Fz R] {i : Nat} {σ : L2.St} {H : Hp} {Q : VK} (h : tE κ W R (xDNotIn i fk) σ H Q) : tDNotIn (tE κ W RD fk) (tVar i) σ H Q := by
  obtain ⟨g, F, own, ρ, w, r, p⟩ := h
  unfold xDNotIn at p
  cases er : ρ[i]? with
  | none => rw [er] at p; exact p.elim
  | some s =>
    rw [er] at p
    cases s with
    | un => exact p.elim
    | d x => exact p.elim
    | own xs => exact p.elim
    | dc kvs =>
      obtain ⟨h1, h2, h3, h4⟩ := r.slots i _ er
      refine ⟨g, F, own, ρ, w, r, (po_bind p).mono fun d g1 F1 w1 H1 e1 k1 p1 y hy => ⟨_, h1, ?_⟩⟩
      have p2 := p1 e1
      cases d with
      | int k =>
        dsimp only at p2
        obtain rfl : y = .int k := by cases hy; rfl
        have g0 := DGet.k (k := .inl k) (e1.keep _ _ h4 h3)
        rw [dcT_val] at g0
        refine ⟨own i, _, rfl, g0, po_ok p2 k1 _ ?_⟩
        rw [Option.isSome_map]
        exact Fz.fz (.bl _)
      | _ => exact p2.elim
theorem dt_din {i : Nat} {o : Expr} (hu : X.A.units + 1 < cLine) (hx : PE X o (tVar i)) (he : DE κ W X RD e fk) (hm : behindInMarks .In o = false) : DT κ W X (.Compare e [.In] [o] pos) (xT (xDIn i fk)) :=
  PT.weak (pt_cmp (pc_din hu he hx) hm) fun σ H Q h => din_read (R := RV) (tt_of h)
theorem dt_dnotin {i : Nat} {o : Expr} (hu : X.A.units + 1 < cLine) (hx : PE X o (tVar i)) (he : DE κ W X RD e fk) (hm : behindInMarks .NotIn o = false) : DT κ W X (.Compare e [.NotIn] [o] pos) (xT (xDNotIn i fk)) :=
  PT.weak (pt_cmp (pc_dnotin hu he hx) hm) fun σ H Q h => dnotin_read (R := RV) (tt_of h)
end
/-! ### purity -/
def kDGet (kvs : List (Int × Int)) : D → M D
  | .int k => match dcVal kvs k with
    | some v => M.pure (.int v)
    | none => M.bad
  | _ => M.bad
def kDIn (kvs : List (Int × Int)) : D → M D
  | .int k => M.pure (.bool (dcVal kvs k).isSome)
  | _ => M.bad
def kDNotIn (kvs : List (Int × Int)) : D → M D
  | .int k => M.pure (.bool (!(dcVal kvs k).isSome))
  | _ => M.bad
section
variable {i j : Nat} {fk fd fv : X D} {ρ : List Slot} {kvs : List (Int × Int)}
theorem v_xDGet (h : ρ[i]? = some (.dc kvs)) : xDGet i fk ρ = M.bind (fk ρ) (kDGet kvs) := by
  funext w
  unfold xDGet
  rw [h]
  exact congrFun (congrArg (M.bind (fk ρ)) (funext fun k => by cases k <;> rfl)) w
theorem v_xDGet2 (h : ρ[i]? = some (.dc kvs)) : xDGet2 i fk fd ρ = M.bind (fk ρ) fun k => M.bind (fd ρ) fun d => dcGet kvs k d := by
  funext w
  unfold xDGet2
  rw [h]
theorem v_xDIn (h : ρ[i]? = some (.dc kvs)) : xDIn i fk ρ = M.bind (fk ρ) (kDIn kvs) := by
  funext w
  unfold xDIn
  rw [h]
  exact congrFun (congrArg (M.bind (fk ρ)) (funext fun k => by cases k <;> rfl)) w
theorem v_xDNotIn (h : ρ[i]? = some (.dc kvs)) : xDNotIn i fk ρ = M.bind (fk ρ) (kDNotIn kvs) := by
  funext w
  unfold xDNotIn
  rw [h]
  exact congrFun (congrArg (M.bind (fk ρ)) (funext fun k => by cases k <;> rfl)) w
theorem pu_kDGet : ∀ d, Pu (kDGet kvs d) := by
  intro d
  unfold kDGet
  split
  · split
    · exact pu_pure
    · exact pu_bad
  · exact pu_bad
theorem pu_kDIn : ∀ d, Pu (kDIn kvs d) := by
  intro d
  unfold kDIn
  split
  · exact pu_pure
  · exact pu_bad
theorem pu_kDNotIn : ∀ d, Pu (kDNotIn kvs d) := by
  intro d
  unfold kDNotIn
  split
  · exact pu_pure
  · exact pu_bad
theorem pu_dcGet : ∀ k d, Pu (dcGet kvs k d) := by
  intro k d
  unfold dcGet
  split
  · exact pu_pure
  · exact pu_bad
theorem pu_xDGet (hk : PuX fk) : PuX (xDGet i fk) := fun ρ => by
  cases e : ρ[i]? with
  | none => intro w; unfold xDGet; rw [e]; rfl
  | some s =>
    cases s with
    | dc kvs => rw [v_xDGet e]; exact pu_bind (hk ρ) pu_kDGet
    | _ => intro w; unfold xDGet; rw [e]; rfl
theorem pu_xDGet2 (hk : PuX fk) (hd : PuX fd) : PuX (xDGet2 i fk fd) := fun ρ => by
  cases e : ρ[i]? with
  | none => intro w; unfold xDGet2; rw [e]; rfl
  | some s =>
    cases s with
    | dc kvs => rw [v_xDGet2 e]; exact pu_bind (hk ρ) fun k => pu_bind (hd ρ) fun d => pu_dcGet k d
    | _ => intro w; unfold xDGet2; rw [e]; rfl
theorem pu_xDIn (hk : PuX fk) : PuX (xDIn i fk) := fun ρ => by
  cases e : ρ[i]? with
  | none => intro w; unfold xDIn; rw [e]; rfl
  | some s =>
    cases s with
    | dc kvs => rw [v_xDIn e]; exact pu_bind (hk ρ) pu_kDIn
    | _ => intro w; unfold xDIn; rw [e]; rfl
theorem pu_xDNotIn (hk : PuX fk) : PuX (xDNotIn i fk) := fun ρ => by
  cases e : ρ[i]? with
  | none => intro w; unfold xDNotIn; rw [e]; rfl
  | some s =>
    cases s with
    | dc kvs => rw [v_xDNotIn e]; exact pu_bind (hk ρ) pu_kDNotIn
    | _ => intro w; unfold xDNotIn; rw [e]; rfl
theorem pu_xDVals : PuX (xDVals i j) := fun ρ => by
  unfold xDVals
  split
  · exact pu_chk (pu_chk pu_pure)
  · exact pu_bad
theorem pus_dct : PuS (sDct i) := fun _ _ => rfl
theorem pus_dct1 (hk : PuX fk) (hv : PuX fv) : PuS (sDct1 i fk fv) := fun ρ w => by
  refine pus_to (hk ρ) (fun k w => ?_) w
  refine pus_to (hv ρ) (fun v w => ?_) w
  split <;> rfl
theorem pus_dput (hk : PuX fk) (hv : PuX fv) : PuS (sDput i fk fv) := by
  intro ρ w
  unfold sDput
  split
  · refine pus_to (hv ρ) (fun v w => ?_) w
    refine pus_to (hk ρ) (fun k w => ?_) w
    split
    · split <;> rfl
    · rfl
  · rfl
def dputS (ρ : List Slot) (i : Nat) (kvs : List (Int × Int)) : D → D → W' → SR
  | .int k, .int v => fun w => if decide (kvs.length < sizeLine) then .nx (ρ.set i (.dc (dcPut kvs k v))) w else .bad
  | _, _ => S.bad
theorem v_sDput (h : ρ[i]? = some (.dc kvs)) : sDput i fk fv ρ = bindS (fv ρ) ρ fun v => bindS (fk ρ) ρ fun k => dputS ρ i kvs k v := by
  funext w
  unfold sDput
  rw [h]
  show Res.to _ _ _ = Res.to _ _ _
  congr 1
  funext v w
  show Res.to _ _ _ = Res.to _ _ _
  congr 1
  funext k w
  cases k <;> first | (cases v <;> rfl) | rfl
theorem v_dputS {k v : Int} (h : kvs.length < 1000) : dputS ρ i kvs (.int k) (.int v) = S.nx (ρ.set i (.dc (dcPut kvs k v))) := by
  funext w
  show (if decide (kvs.length < sizeLine) then _ else _) = _
  rw [decide_eq_true (by rw [sizeLine_eq]; omega)]
  rfl
@[simp] theorem v_sDct : sDct i ρ = S.nx (ρ.set i (.dc [])) := nr rfl
theorem v_xDVals (h : ρ[i]? = some (.dc kvs)) (hj : j < ρ.length) (hz : kvs.length < 1000) : xDVals i j ρ = M.pure (eL (dcVs kvs)) := by
  unfold xDVals
  rw [h]
  dsimp only
  have e : szOk kvs.length = true := by unfold szOk; exact decide_eq_true (by rw [sizeLine_eq]; omega)
  rw [decide_eq_true hj, e]
  rfl
end
end DL

/-! Rewriting where the world changes: one instance with a list of labels, and a shared list. -/
namespace DL
open PySem PySem.Spec PyProof.Rows L2
section
variable {α β γ : Type} {ρ : List Slot}
theorem mbind_assoc (a : M α) (b : α → M β) (c : β → M γ) : M.bind (M.bind a b) c = M.bind a fun x => M.bind (b x) c := by
  funext w
  unfold M.bind
  cases a w <;> rfl
theorem bindS_bind (a : M α) (b : α → M β) (k : β → W' → SR) : bindS (M.bind a b) ρ k = bindS a ρ fun x => bindS (b x) ρ k := by
  funext w
  show Res.to (M.bind a b w) ρ k = Res.to (a w) ρ _
  unfold M.bind
  cases a w <;> rfl
theorem seqS_bindS (m : M α) (k : α → W' → SR) (h : Sm) : seqS (bindS m ρ k) h = bindS m ρ fun a => seqS (k a) h := by
  funext w
  show (Res.to (m w) ρ k).seq h = Res.to (m w) ρ _
  cases m w <;> rfl
theorem runS_bindS (m : M α) (k : α → W' → SR) : runS (bindS m ρ k) = M.bind m fun a => runS (k a) := by
  funext w
  unfold runS M.bind bindS
  cases m w <;> rfl
end
def mPutF (f : Str) (o d : D) : M Unit := fun w => match asH o with
  | some i => match w[i]? with
    | some (.ins fs) => if decide (fs.length < 1000) then .ok () (w.set i (.ins (putD f d fs))) else .bad
    | _ => .bad
  | none => .bad
def mPutE (o d : D) : M Unit := fun w => match asH o with
  | some i => match w[i]? with
    | some (.lst xs) => if decide (xs.length < sizeLine) then .ok () (w.set i (.lst (xs ++ [d]))) else .bad
    | _ => .bad
  | none => .bad
section
variable {ρ : List Slot} {f m : Str} {fo fe : X D} {fs : X (List D)} {k : List D → M D}
theorem v_sPutF : sPutF f fo fe ρ = bindS (fe ρ) ρ fun d => bindS (fo ρ) ρ fun o => bindS (mPutF f o d) ρ fun _ => S.nx ρ := by
  funext w
  show Res.to _ _ _ = Res.to _ _ _
  congr 1
  funext d w
  show Res.to _ _ _ = Res.to _ _ _
  congr 1
  funext o w
  show _ = Res.to (mPutF f o d w) ρ _
  unfold mPutF
  cases asH o with
  | none => rfl
  | some i =>
    dsimp only
    cases w[i]? with
    | none => rfl
    | some c =>
      cases c with
      | lst xs => rfl
      | ins fs => dsimp only; cases decide (fs.length < 1000) <;> rfl
theorem v_putEnd (o d : D) : putEnd o d ρ = bindS (mPutE o d) ρ fun _ => S.nx ρ := by
  funext w
  show _ = Res.to (mPutE o d w) ρ _
  unfold mPutE putEnd
  cases asH o with
  | none => rfl
  | some i =>
    dsimp only
    cases w[i]? with
    | none => rfl
    | some c =>
      cases c with
      | ins fs => rfl
      | lst xs => dsimp only; cases decide (xs.length < sizeLine) <;> rfl
theorem v_sAppH : sAppH fo fe ρ = bindS (fo ρ) ρ fun o => bindS (isLst o) ρ fun _ => bindS (fe ρ) ρ fun d => bindS (mPutE o d) ρ fun _ => S.nx ρ := by
  funext w
  show Res.to _ _ _ = Res.to _ _ _
  congr 1
  funext o w
  show Res.to _ _ _ = Res.to _ _ _
  congr 1
  funext u w
  show Res.to _ _ _ = Res.to _ _ _
  congr 1
  funext d
  exact v_putEnd o d
theorem v_xMc : xMc m k fo fs ρ = M.bind (fo ρ) fun o => M.bind (noFld m o) fun _ => M.bind (fs ρ) fun ds => k (o :: ds) := nr rfl
theorem v_xMc0 : xMc0 m k fo ρ = M.bind (fo ρ) fun o => M.bind (noFld m o) fun _ => k [o] := nr rfl
end
/-- two objects, an instance, a list -/
def swd (c0 c1 : Cell) (row : List Int) (ps : List D) : W' := [c0, c1, .ins [("labels", eL row), ("past", hnd 3)], .lst ps]
section
variable {α : Type} {c0 c1 : Cell} {row r2 : List Int} {ps : List D} {f : D → M α} {g : Unit → M α}
theorem w_lab : M.bind (kFld "labels" (hnd 2)) f (swd c0 c1 row ps) = f (eL row) (swd c0 c1 row ps) := bind_ok (by rfl)
theorem w_past : M.bind (kFld "past" (hnd 2)) f (swd c0 c1 row ps) = f (hnd 3) (swd c0 c1 row ps) := bind_ok (by rfl)
theorem w_put : M.bind (mPutF "labels" (hnd 2) (eL r2)) g (swd c0 c1 row ps) = g () (swd c0 c1 r2 ps) := bind_ok (by rfl)
theorem w_isL : M.bind (isLst (hnd 3)) g (swd c0 c1 row ps) = g () (swd c0 c1 row ps) := bind_ok (by rfl)
theorem w_app {d : D} (h : ps.length < 1000) : M.bind (mPutE (hnd 3) d) g (swd c0 c1 row ps) = g () (swd c0 c1 row (ps ++ [d])) := bind_ok (by
  show (if decide (ps.length < sizeLine) then _ else _) = _
  rw [decide_eq_true (by rw [sizeLine_eq]; omega)]
  rfl)
theorem w_no1 : M.bind (noFld "put" (hnd 2)) g (swd c0 c1 row ps) = g () (swd c0 c1 row ps) := bind_ok (by rfl)
theorem w_no2 : M.bind (noFld "join" (hnd 2)) g (swd c0 c1 row ps) = g () (swd c0 c1 row ps) := bind_ok (by rfl)
theorem w_no3 : M.bind (noFld "count" (hnd 2)) g (swd c0 c1 row ps) = g () (swd c0 c1 row ps) := bind_ok (by rfl)
theorem w_no4 : M.bind (noFld "grouping" (hnd 2)) g (swd c0 c1 row ps) = g () (swd c0 c1 row ps) := bind_ok (by rfl)
theorem w_no5 : M.bind (noFld "undo" (hnd 2)) g (swd c0 c1 row ps) = g () (swd c0 c1 row ps) := bind_ok (by rfl)
theorem w_pop {d : D} : M.bind (kPop (hnd 3)) f (swd c0 c1 row (ps ++ [d])) = f d (swd c0 c1 row ps) := bind_ok (by
  show (match (ps ++ [d])[(ps ++ [d]).length - 1]? with | some y => Res.ok y ((swd c0 c1 row (ps ++ [d])).set 3 (.lst (ps ++ [d]).dropLast)) | none => .bad) = _
  rw [List.length_append, show ps.length + [d].length - 1 = ps.length from rfl, List.getElem?_concat_length, List.dropLast_concat]
  rfl)
theorem w_eqH (hs : SeqAt.shaped (.list ps) = true) : M.bind (kEqH (hnd 3) (.list [])) f (swd c0 c1 row ps) = f (.bool (decide (ps = []))) (swd c0 c1 row ps) := bind_ok (by
  show chk (SeqAt.shaped (.list ps) && SeqAt.shaped (.list [])) (M.pure (PyData.bool (PyData.eqv (.list ps) (.list [])))) (swd c0 c1 row ps) = _
  rw [hs]
  cases ps with
  | nil => rfl
  | cons p r => rfl)
theorem w_pure {a : α} {w : W'} : M.pure a w = .ok a w := rfl
theorem w_err {c : Str} {w : W'} : (M.err c : M α) w = .err c w := rfl
end
/-! ### draws beside other objects -/
theorem draw_okR {c0 c1 : Cell} {rest : W'} (h : DW [c0, c1]) {n : Int} (h0 : 0 < n) (h1 : n < 1000000) : ∃ r c0' c1', m__law_draw [hnd 0, .int n] (c0 :: c1 :: rest) = .ok (.int r) (c0' :: c1' :: rest) ∧ 0 ≤ r ∧ r < n ∧ DW [c0', c1'] := by
  obtain ⟨c, ns, e, hl, hl2⟩ := h
  cases e
  obtain ⟨r, ns', e⟩ := draw_some (c := c + 1) (n := n) hl
  obtain ⟨b1, b2, b3⟩ := draw_bound e h0
  refine ⟨r, .lst [hnd 1, .int (c + 1)], .lst (dInts ns'), ?_, b1, b2, c + 1, ns', rfl, by omega, by omega⟩
  unfold m__law_draw hnd
  dsimp only [Int.ofNat_zero]
  show (match intsOf (dInts ns) with | some ns => _ | none => _) = _
  rw [intsOf_dInts]
  dsimp only
  have hz : szOk ns.length = true := by
    unfold szOk
    rw [sizeLine_eq]
    exact decide_eq_true (by omega)
  rw [if_pos (by rw [decide_eq_true hl, decide_eq_true h0, decide_eq_true h1, hz]; rfl), e]
theorem pickR {α : Type} [DecidableEq α] [Enc α] [Sh α] {xs : List α} {c0 c1 : Cell} {rest : W'} (d : DW [c0, c1]) (h0 : 0 < xs.length) (h1 : xs.length < 1000000) :
    ∃ (a : α) (c0' c1' : Cell), a ∈ xs ∧ p_pick [hnd 0, eL xs] (c0 :: c1 :: rest) = .ok (Enc.e a) (c0' :: c1' :: rest) ∧ DW [c0', c1'] := by
  obtain ⟨r, c0', c1', e, r0, r1, d'⟩ := draw_okR (rest := rest) d (n := (xs.length : Nat)) (by omega) (by omega)
  have hr : r.toNat < xs.length := by omega
  have hg : xs[r.toNat]? = some xs[r.toNat] := List.getElem?_eq_getElem hr
  refine ⟨xs[r.toNat], c0', c1', List.getElem_mem hr, ?_, d'⟩
  have hx : kIx (eL xs) (.int r) = M.pure (Enc.e xs[r.toNat]) := by
    have := kIx_l hg
    rwa [Int.toNat_of_nonneg r0] at this
  have hl : kLen [eL xs] (c0 :: c1 :: rest) = .ok (.int (xs.length : Nat)) (c0 :: c1 :: rest) := by rw [kLen_l]; rfl
  have hb : x2 kIx (xVar 1) (xCall m__law_draw (xCons (xVar 0) (xCons (xCall kLen (xCons (xVar 1) xNil)) xNil))) [.d (hnd 0), .d (eL xs)] (c0 :: c1 :: rest) = .ok (Enc.e xs[r.toNat]) (c0' :: c1' :: rest) := by
    rw [x2_ok (xVar_ok rfl) ((xCall_ok (xCons_ok (xVar_ok rfl) (xCons_ok ((xCall_ok (xCons_ok (xVar_ok rfl) xNil_ok)).trans hl) xNil_ok))).trans e), hx]
    rfl
  show (match (x2 kIx (xVar 1) (xCall m__law_draw (xCons (xVar 0) (xCons (xCall kLen (xCons (xVar 1) xNil)) xNil))) [.d (hnd 0), .d (eL xs)] (c0 :: c1 :: rest)).to _ _ with | .ret d w' => Res.ok d w' | .nx _ w' => .ok .none w' | .err c _ w' => .err c w' | _ => .bad) = _
  rw [hb]
  rfl
section
variable {α : Type} {ρ ρ1 ρ2 : List Slot} {w w1 w2 : W'} {f h : Sm} {c : Str} {cs : List Str} {i : Nat}
theorem bindS_ok {m : M α} {k : α → W' → SR} {a : α} (e : m w = .ok a w1) : bindS m ρ k w = k a w1 := by
  show (m w).to ρ k = _
  rw [e]
  rfl
theorem bindS_err {m : M α} {k : α → W' → SR} (e : m w = .err c w1) : bindS m ρ k w = .err c ρ w1 := by
  show (m w).to ρ k = _
  rw [e]
  rfl
theorem tryW_nx (e : f ρ w = .nx ρ1 w1) : sTry i cs f h ρ w = .nx ρ1 w1 := by
  unfold sTry
  rw [e]
theorem tryW_err (e : f ρ w = .err c ρ1 w1) (hc : cs.contains c = true) (k : h (ρ1.set i (.d (exD c))) w1 = .nx ρ2 w2) : sTry i cs f h ρ w = .nx (ρ2.set i .un) w2 := by
  unfold sTry
  rw [e]
  dsimp only
  rw [hc, k]
  rfl
theorem seqW (e : f ρ w = .nx ρ1 w1) : sSeq f h ρ w = h ρ1 w1 := by
  unfold sSeq
  rw [e]
  rfl
end
end DL

/-! len(o), o an instance of the own class with its own __len__. -/
namespace DL
open PySem PySem.Spec PyProof.Rows L2
def kLenO (mk : List D → M D) : D → M D := fun d => M.bind (noFld "__len__" d) fun _ w => match mk [d] w with
  | .ok (.int n) w' => if decide (0 ≤ n) && decide (n < 1000000) then .ok (.int n) w' else .bad
  | _ => .bad
def rLenO (C : Addr) (sp : Sp) : List V → Hp → VK → Prop := fun vs H Q => ∃ a dx fs, vs = [.ref a] ∧ H a = some (.ins C dx fs) ∧ sp [.ref a] H (fun v H' => ∃ n : Int, v = .int n ∧ 0 ≤ n ∧ n < 1000000 ∧ Q (.int n) H') (fun _ _ _ => False)
section
variable {X : Cx} {k : Nat} {f C : Addr} {fd : FuncData} {ps : List Str} {sp : Sp}
theorem call_lenO (hm : Meth X.K C "__len__" f) (F : FnOk X.prog X.w X.K X.mg X.base (L2.CX X.prog X.w) k f fd ps sp) (hr : Room (k + 1) X.A) (hb : Binds X.K fd ps []) : CallR X (.builtin "len") (rLenO C sp) := by
  intro pins s σ H vs us Q I r h
  obtain ⟨a, dx, fs, rfl, ha, q⟩ := h
  cases r with
  | cons r1 rr =>
    cases rr
    cases r1
    obtain ⟨mA, O, rO, _, _, _⟩ := ins_get I.hok ha
    obtain ⟨od, J, _⟩ := O.look
    have run : wpAny (model X.prog X.w) X.A.in1 (call (.ref f) [.ref a]) (EP X pins σ fun v H' => ∃ n : Int, v = .int n ∧ 0 ≤ n ∧ n < 1000000 ∧ Q (.int n) H') X.xe s := by
      have hl : ([Value.ref a] : List Value).length = ps.length := F.len _ _ _ _ q
      have b := hb s [.ref a] I.kIn (by rw [List.append_nil]; exact hl)
      rw [List.append_nil] at b
      refine wpAny_call (codeAny_mono (F.run X.A.in1 X.stack s H ⟨[.ref a], []⟩ [.ref a] [.ref a] _ _ hr.in1 I.env0.in1 b (.cons rfl .nil) q) fun r s' hq => ?_)
      cases r with
      | error e =>
        obtain ⟨_, _, _, _, _, _, _, _, _, _, _, _, z⟩ := hq
        exact z.elim
      | ok fl =>
        cases fl with
        | ret u => exact I.after hq
        | next => exact False.elim hq
        | brk => exact False.elim hq
        | cont => exact False.elim hq
    refine Calls.call_function_entry kind_len plain_len entry_len (args_len1 _) ?_
    unfold Builtin.«len»
    refine wpAny_bind (m := PySem.oneArg "len" _) (wpAny_pure ?_)
    refine wpAny_bind (m := callSpecial? (.ref a) (Str.ofString "__len__")) (PySem.W.special_fn I.kIn J hm.at_ (beq_iff_eq.mp hm.fn) (wpAny_mono run (fun v s' z => ?_) fun _ _ y => y))
    obtain ⟨x, H', I', rx, n, rfl, h0, h1, qn⟩ := z
    obtain ⟨t, rfl⟩ := rx
    refine wpAny_bind (wpAny_holding (wpAny_pure ?_))
    refine wpAny_bind (wpAny_letGo ?_)
    show wpAny _ _ (if n < 0 then _ else _) _ _ _
    rw [if_neg (by omega)]
    show wpAny _ _ (if n ≥ 2 ^ 63 then _ else _) _ _ _
    rw [if_neg (by omega)]
    exact wpAny_bind (wpAny_mkInt (wpAny_pure ⟨_, rfl, ⟨.int n, H', I'.tok _, ⟨_, rfl⟩, qn⟩⟩))
end
section
variable [Ec] {κ : Kn} {W : WX} {X : Cx} {o : Expr} {fo : DL.X D} {pos : Pos}
theorem de_lenO {p : Pos} {k j : Nat} {mk : List D → M D} (c : Met X.prog X.w X.K X.mg X.base κ "__len__" k 1 mk) (hr : Room j X.A) (hk : k + 1 ≤ j) (hg : Gl X "len") (hm : X.mg "len" = none) (ho : DE κ W X RD o fo)
    (he : starEach [o] X.env = (false, eval o X.env) :: starEach [] X.env := by rfl) (hpl : (backTo pos (starEach [] X.env)).any (·.1) = false := by rfl) : DE κ W X RD (.Call (.Name "len" p) [o] [] pos) (x1 (kLenO mk) fo) := by
  obtain ⟨f, fd, ps, Fk, hmm, hb⟩ := c
  refine PE.weak (pe_callB (call_lenO hmm Fk (hr.mono hk) hb) hg hm PySem.boot_len (pa_cons ho pa_nil he) (by decide) (by decide) he hpl) fun σ H Q ⟨g, F, own, ρ, w, r, p⟩ => ?_
  refine ⟨g, F, own, ρ, w, r, (po_bind p).mono fun d g1 F1 w1 H1 e1 k1 p1 v hv => ?_⟩
  have p2 := po_bind (p1 e1)
  obtain ⟨i, fs, ei, ew, el, eq⟩ := noFld_inv (po_ne p2)
  rw [eq] at p2
  have p3 := po_ok p2 k1 (Ext.refl _ _ _)
  obtain ⟨a, dx, vs, rfl, ga, hH, hp⟩ := ins_at k1 hv ei ew
  refine ⟨a, dx, vs, rfl, hH, g1, F1, w1, [d], k1, .cons hv .nil, rfl, ?_⟩
  cases em : mk [d] w1 with
  | ok y w' =>
    rw [em] at p3
    cases y with
    | int n =>
      dsimp only at p3
      split at p3
      · rename_i hc
        simp only [Bool.and_eq_true, decide_eq_true_eq] at hc
        intro g' F' H' x kx u hu
        cases hu
        exact ⟨n, rfl, hc.1, hc.2, p3 g' F' H' x kx _ (.int n)⟩
      · exact p3.elim
    | _ => exact p3.elim
  | err c w' => rw [em] at p3; exact p3.elim
  | bad => rw [em] at p3; exact p3.elim
end
end DL

namespace Pg
open PySem PySem.Spec PyProof.Rows L2 DL
def f_is_int : Sm := (sRet (xAndV (x1 (kIsi "int") (xVar 0)) (xAndV (xNotV (x1 (kIsi "bool") (xVar 0))) (x3 kLe kLe (xVar 1) (xVar 0) (xVar 2)))))
def m_is_int : List D → M D := runF 3 f_is_int
theorem pu_m_is_int : ∀ ds : List D, Pu (m_is_int ds) := pu_runF (b := f_is_int) (pus_ret (pu_xAndV (pu_x1 (pu_kIsi "int") pu_xVar) (pu_xAndV (pu_xNotV (pu_x1 (pu_kIsi "bool") pu_xVar)) (pu_x3 pu_kLe pu_kLe pu_xVar pu_xVar pu_xVar))))
def b_is_grouping_1 : Sm := (sSeq (sIf (xNot (xT (xCall m_is_int (xCons (xVar 2) (xCons (xC (.int 0)) (xCons (x2 kAdd (xVar 1) (xC (.int 1))) xNil)))))) (sRet (xC (.bool false))) sNx) (sSet 1 (xCall kMax2 (xCons (xVar 1) (xCons (xVar 2) xNil)))))
def f_is_grouping : Sm := (sSeq (sIf (xOr (xNot (xT (x1 (kIsi "list") (xVar 0)))) (xNot (xT (x3 kLe kLe (xC (.int 1)) (xCall kLen (xCons (xVar 0) xNil)) (xC (.int 7)))))) (sRet (xC (.bool false))) sNx) (sSeq (sSet 1 (x1 kNeg (xC (.int 1)))) (sSeq (sFor (xIt asL (xVar 0)) (.nm 2) b_is_grouping_1) (sRet (xC (.bool true))))))
def m_is_grouping : List D → M D := runF 3 f_is_grouping
theorem pu_m_is_grouping : ∀ ds : List D, Pu (m_is_grouping ds) := pu_runF (b := f_is_grouping) (pus_seq (pus_if (pu_xOr (pu_xNot (pu_xT (pu_x1 (pu_kIsi "list") pu_xVar))) (pu_xNot (pu_xT (pu_x3 pu_kLe pu_kLe pu_xC (pu_xCall pu_kLen (pu_xCons pu_xVar pu_xNil)) pu_xC)))) (pus_ret pu_xC) pus_nx) (pus_seq (pus_set (pu_x1 pu_kNeg pu_xC)) (pus_seq (pus_for (pu_xIt pu_asL pu_xVar) (pus_seq (pus_if (pu_xNot (pu_xT (pu_xCall pu_m_is_int (pu_xCons pu_xVar (pu_xCons pu_xC (pu_xCons (pu_x2 pu_kAdd pu_xVar pu_xC) pu_xNil)))))) (pus_ret pu_xC) pus_nx) (pus_set (pu_xCall pu_kMax2 (pu_xCons pu_xVar (pu_xCons pu_xVar pu_xNil)))))) (pus_ret pu_xC))))
def f_check_grouping : Sm := (sIf (xNot (xT (xCall m_is_grouping (xCons (xVar 0) xNil)))) (sErr "BadGrouping") sNx)
def m_check_grouping : List D → M D := runF 1 f_check_grouping
theorem pu_m_check_grouping : ∀ ds : List D, Pu (m_check_grouping ds) := pu_runF (b := f_check_grouping) (pus_if (pu_xNot (pu_xT (pu_xCall pu_m_is_grouping (pu_xCons pu_xVar pu_xNil)))) pus_err pus_nx)
def f_check_place : Sm := (sIf (xNot (xT (xCall m_is_int (xCons (xVar 1) (xCons (xC (.int 0)) (xCons (x2 kSub (xCall kLen (xCons (xVar 0) xNil)) (xC (.int 1))) xNil)))))) (sErr "BadNumber") sNx)
def m_check_place : List D → M D := runF 2 f_check_place
theorem pu_m_check_place : ∀ ds : List D, Pu (m_check_place ds) := pu_runF (b := f_check_place) (pus_if (pu_xNot (pu_xT (pu_xCall pu_m_is_int (pu_xCons pu_xVar (pu_xCons pu_xC (pu_xCons (pu_x2 pu_kSub (pu_xCall pu_kLen (pu_xCons pu_xVar pu_xNil)) pu_xC) pu_xNil)))))) pus_err pus_nx)
def b_numbered_1 : Sm := (sSeq (sIf (xT (x2 kNotIn (xVar 3) (xPeek 1))) (sApp 1 (xVar 3)) sNx) (sApp 2 (xMeth "list" kIndex (xPeek 1) (xCons (xVar 3) xNil))))
def f_numbered : Sm := (sSeq (sOwn 1 (xLst xNil)) (sSeq (sOwn 2 (xLst xNil)) (sSeq (sFor (xIt asL (xVar 0)) (.nm 3) b_numbered_1) (sFrz 2 (sRet (xVar 2))))))
def m_numbered : List D → M D := runF 4 f_numbered
theorem pu_m_numbered : ∀ ds : List D, Pu (m_numbered ds) := pu_runF (b := f_numbered) (pus_seq (pus_own (pu_xLst pu_xNil)) (pus_seq (pus_own (pu_xLst pu_xNil)) (pus_seq (pus_for (pu_xIt pu_asL pu_xVar) (pus_seq (pus_if (pu_xT (pu_x2 pu_kNotIn pu_xVar pu_xPeek)) (pus_app pu_xVar) pus_nx) (pus_app (pu_xMeth pu_kIndex pu_xPeek (pu_xCons pu_xVar pu_xNil))))) (pus_frz (pus_ret pu_xVar)))))
def f_groups_of : Sm := (sRet (xLc [1] (.nm 1) (xIt kRg (x2 kAdd (xCall kMax (xCons (xVar 0) xNil)) (xC (.int 1)))) xYes (xLc [2] (.nm 2) (xIt kRg (xCall kLen (xCons (xVar 0) xNil))) (xT (x2 kEq (x2 kIx (xVar 0) (xVar 2)) (xVar 1))) (xVar 2))))
def m_groups_of : List D → M D := runF 3 f_groups_of
theorem pu_m_groups_of : ∀ ds : List D, Pu (m_groups_of ds) := pu_runF (b := f_groups_of) (pus_ret (pu_xLc (pu_xIt pu_kRg (pu_x2 pu_kAdd (pu_xCall pu_kMax (pu_xCons pu_xVar pu_xNil)) pu_xC)) pu_xYes (pu_xLc (pu_xIt pu_kRg (pu_xCall pu_kLen (pu_xCons pu_xVar pu_xNil))) (pu_xT (pu_x2 pu_kEq (pu_x2 pu_kIx pu_xVar pu_xVar) pu_xVar)) pu_xVar)))
def f_groups : Sm := (sSeq (sDrop (xCall m_check_grouping (xCons (xVar 0) xNil))) (sRet (xCall m_groups_of (xCons (xVar 0) xNil))))
def m_groups : List D → M D := runF 1 f_groups
theorem pu_m_groups : ∀ ds : List D, Pu (m_groups ds) := pu_runF (b := f_groups) (pus_seq (pus_drop (pu_xCall pu_m_check_grouping (pu_xCons pu_xVar pu_xNil))) (pus_ret (pu_xCall pu_m_groups_of (pu_xCons pu_xVar pu_xNil))))
def b_grouping_of_1 : Sm := (sSet 1 (x2 kAdd (xVar 1) (xVar 2)))
def f_grouping_of : Sm := (sSeq (sIf (xOr (xNot (xT (x1 (kIsi "list") (xVar 0)))) (xNot (xT (xCall kAll (xCons (xLc [2] (.nm 2) (xIt asL (xVar 0)) xYes (xAndV (x1 (kIsi "list") (xVar 2)) (x2 kNe (xVar 2) (xLst xNil)))) xNil))))) (sErr "BadGrouping") sNx) (sSeq (sSet 1 (xLst xNil)) (sSeq (sFor (xIt asL (xVar 0)) (.nm 2) b_grouping_of_1) (sSeq (sIf (xOr (xNot (xT (x3 kLe kLe (xC (.int 1)) (xCall kLen (xCons (xVar 1) xNil)) (xC (.int 7))))) (xNot (xT (xCall kAll (xCons (xLc [3] (.nm 3) (xIt asL (xVar 1)) xYes (xCall m_is_int (xCons (xVar 3) (xCons (xC (.int 0)) (xCons (xC (.int 6)) xNil))))) xNil))))) (sErr "BadGrouping") sNx) (sSeq (sIf (xT (x2 kNe (xCall kSortI (xCons (xVar 1) xNil)) (x1 kLstRg (xCall kLen (xCons (xVar 1) xNil))))) (sErr "BadGrouping") sNx) (sRet (xCall m_numbered (xCons (xLc [3] (.nm 3) (xIt kRg (xCall kLen (xCons (xVar 1) xNil))) xYes (x2 kIx (xLc [4, 2] (.tp [4, 2]) (fun ρ => M.bind ((xCons (xVar 0) xNil) ρ) kEnum) (xT (x2 kIn (xVar 3) (xVar 2))) (xVar 4)) (xC (.int 0)))) xNil))))))))
def m_grouping_of : List D → M D := runF 5 f_grouping_of
theorem pu_m_grouping_of : ∀ ds : List D, Pu (m_grouping_of ds) := pu_runF (b := f_grouping_of) (pus_seq (pus_if (pu_xOr (pu_xNot (pu_xT (pu_x1 (pu_kIsi "list") pu_xVar))) (pu_xNot (pu_xT (pu_xCall pu_kAll (pu_xCons (pu_xLc (pu_xIt pu_asL pu_xVar) pu_xYes (pu_xAndV (pu_x1 (pu_kIsi "list") pu_xVar) (pu_x2 pu_kNe pu_xVar (pu_xLst pu_xNil)))) pu_xNil))))) pus_err pus_nx) (pus_seq (pus_set (pu_xLst pu_xNil)) (pus_seq (pus_for (pu_xIt pu_asL pu_xVar) (pus_set (pu_x2 pu_kAdd pu_xVar pu_xVar))) (pus_seq (pus_if (pu_xOr (pu_xNot (pu_xT (pu_x3 pu_kLe pu_kLe pu_xC (pu_xCall pu_kLen (pu_xCons pu_xVar pu_xNil)) pu_xC))) (pu_xNot (pu_xT (pu_xCall pu_kAll (pu_xCons (pu_xLc (pu_xIt pu_asL pu_xVar) pu_xYes (pu_xCall pu_m_is_int (pu_xCons pu_xVar (pu_xCons pu_xC (pu_xCons pu_xC pu_xNil))))) pu_xNil))))) pus_err pus_nx) (pus_seq (pus_if (pu_xT (pu_x2 pu_kNe (pu_xCall pu_kSortI (pu_xCons pu_xVar pu_xNil)) (pu_x1 pu_kLstRg (pu_xCall pu_kLen (pu_xCons pu_xVar pu_xNil))))) pus_err pus_nx) (pus_ret (pu_xCall pu_m_numbered (pu_xCons (pu_xLc (pu_xIt pu_kRg (pu_xCall pu_kLen (pu_xCons pu_xVar pu_xNil))) pu_xYes (pu_x2 pu_kIx (pu_xLc (pu_xItL pu_kEnum (pu_xCons pu_xVar pu_xNil)) (pu_xT (pu_x2 pu_kIn pu_xVar pu_xVar)) pu_xVar) pu_xC)) pu_xNil))))))))
def f_by_labels : Sm := (sSeq (sIf (xOr (xNot (xT (x1 (kIsi "list") (xVar 0)))) (xOr (xNot (xT (x3 kLe kLe (xC (.int 1)) (xCall kLen (xCons (xVar 0) xNil)) (xC (.int 7))))) (xNot (xT (xCall kAll (xCons (xLc [1] (.nm 1) (xIt asL (xVar 0)) xYes (xCall m_is_int (xCons (xVar 1) (xCons (xC (.int 0)) (xCons (xC (.int 99)) xNil))))) xNil)))))) (sErr "BadGrouping") sNx) (sRet (xCall m_numbered (xCons (xVar 0) xNil))))
def m_by_labels : List D → M D := runF 2 f_by_labels
theorem pu_m_by_labels : ∀ ds : List D, Pu (m_by_labels ds) := pu_runF (b := f_by_labels) (pus_seq (pus_if (pu_xOr (pu_xNot (pu_xT (pu_x1 (pu_kIsi "list") pu_xVar))) (pu_xOr (pu_xNot (pu_xT (pu_x3 pu_kLe pu_kLe pu_xC (pu_xCall pu_kLen (pu_xCons pu_xVar pu_xNil)) pu_xC))) (pu_xNot (pu_xT (pu_xCall pu_kAll (pu_xCons (pu_xLc (pu_xIt pu_asL pu_xVar) pu_xYes (pu_xCall pu_m_is_int (pu_xCons pu_xVar (pu_xCons pu_xC (pu_xCons pu_xC pu_xNil))))) pu_xNil)))))) pus_err pus_nx) (pus_ret (pu_xCall pu_m_numbered (pu_xCons pu_xVar pu_xNil))))
def f_count_groups : Sm := (sSeq (sDrop (xCall m_check_grouping (xCons (xVar 0) xNil))) (sRet (x2 kAdd (xCall kMax (xCons (xVar 0) xNil)) (xC (.int 1)))))
def m_count_groups : List D → M D := runF 1 f_count_groups
theorem pu_m_count_groups : ∀ ds : List D, Pu (m_count_groups ds) := pu_runF (b := f_count_groups) (pus_seq (pus_drop (pu_xCall pu_m_check_grouping (pu_xCons pu_xVar pu_xNil))) (pus_ret (pu_x2 pu_kAdd (pu_xCall pu_kMax (pu_xCons pu_xVar pu_xNil)) pu_xC)))
def f_group_sizes : Sm := (sSeq (sDrop (xCall m_check_grouping (xCons (xVar 0) xNil))) (sRet (x1 kRev (xCall kSortI (xCons (xLc [1] (.nm 1) (xIt asL (xCall m_groups_of (xCons (xVar 0) xNil))) xYes (xCall kLen (xCons (xVar 1) xNil))) xNil)))))
def m_group_sizes : List D → M D := runF 2 f_group_sizes
theorem pu_m_group_sizes : ∀ ds : List D, Pu (m_group_sizes ds) := pu_runF (b := f_group_sizes) (pus_seq (pus_drop (pu_xCall pu_m_check_grouping (pu_xCons pu_xVar pu_xNil))) (pus_ret (pu_x1 pu_kRev (pu_xCall pu_kSortI (pu_xCons (pu_xLc (pu_xIt pu_asL (pu_xCall pu_m_groups_of (pu_xCons pu_xVar pu_xNil))) pu_xYes (pu_xCall pu_kLen (pu_xCons pu_xVar pu_xNil))) pu_xNil)))))
def f_group_with : Sm := (sSeq (sDrop (xCall m_check_grouping (xCons (xVar 0) xNil))) (sSeq (sDrop (xCall m_check_place (xCons (xVar 0) (xCons (xVar 1) xNil)))) (sRet (xLc [2] (.nm 2) (xIt kRg (xCall kLen (xCons (xVar 0) xNil))) (xT (x2 kEq (x2 kIx (xVar 0) (xVar 2)) (x2 kIx (xVar 0) (xVar 1)))) (xVar 2)))))
def m_group_with : List D → M D := runF 3 f_group_with
theorem pu_m_group_with : ∀ ds : List D, Pu (m_group_with ds) := pu_runF (b := f_group_with) (pus_seq (pus_drop (pu_xCall pu_m_check_grouping (pu_xCons pu_xVar pu_xNil))) (pus_seq (pus_drop (pu_xCall pu_m_check_place (pu_xCons pu_xVar (pu_xCons pu_xVar pu_xNil)))) (pus_ret (pu_xLc (pu_xIt pu_kRg (pu_xCall pu_kLen (pu_xCons pu_xVar pu_xNil))) (pu_xT (pu_x2 pu_kEq (pu_x2 pu_kIx pu_xVar pu_xVar) (pu_x2 pu_kIx pu_xVar pu_xVar))) pu_xVar))))
def f__law_pick : Sm := (sRet (x2 kIx (xVar 1) (xCall m__law_draw (xCons (xVar 0) (xCons (xCall kLen (xCons (xVar 1) xNil)) xNil)))))
def m__law_pick : List D → M D := runF 2 f__law_pick
-- _law_pick draws (m__law_draw)
def f__law_true : Sm := (sRet (xAndV (x1 (kIsi "bool") (xVar 0)) (x2 kEq (xVar 0) (xVar 1))))
def m__law_true : List D → M D := runF 2 f__law_true
theorem pu_m__law_true : ∀ ds : List D, Pu (m__law_true ds) := pu_runF (b := f__law_true) (pus_ret (pu_xAndV (pu_x1 (pu_kIsi "bool") pu_xVar) (pu_x2 pu_kEq pu_xVar pu_xVar)))
def b__law_numbered_1 : Sm := (sSeq (sSet 3 (xMeth "list" kIndex (xVar 0) (xCons (x2 kIx (xVar 0) (xVar 2)) xNil))) (sApp 1 (xIf (xT (x2 kLt (xVar 3) (xVar 2))) (x2 kIx (xPeek 1) (xVar 3)) (x2 kAdd (xCall kMax (xCons (x2 kAdd (xLst (xCons (x2 kSub (xC (.int 0)) (xC (.int 1))) xNil)) (xPeek 1)) xNil)) (xC (.int 1))))))
def f__law_numbered : Sm := (sSeq (sOwn 1 (xLst xNil)) (sSeq (sFor (xIt kRg (xCall kLen (xCons (xVar 0) xNil))) (.nm 2) b__law_numbered_1) (sFrz 1 (sRet (xVar 1)))))
def m__law_numbered : List D → M D := runF 4 f__law_numbered
theorem pu_m__law_numbered : ∀ ds : List D, Pu (m__law_numbered ds) := pu_runF (b := f__law_numbered) (pus_seq (pus_own (pu_xLst pu_xNil)) (pus_seq (pus_for (pu_xIt pu_kRg (pu_xCall pu_kLen (pu_xCons pu_xVar pu_xNil))) (pus_seq (pus_set (pu_xMeth pu_kIndex pu_xVar (pu_xCons (pu_x2 pu_kIx pu_xVar pu_xVar) pu_xNil))) (pus_app (pu_xIf (pu_xT (pu_x2 pu_kLt pu_xVar pu_xVar)) (pu_x2 pu_kIx pu_xPeek pu_xVar) (pu_x2 pu_kAdd (pu_xCall pu_kMax (pu_xCons (pu_x2 pu_kAdd (pu_xLst (pu_xCons (pu_x2 pu_kSub pu_xC pu_xC) pu_xNil)) pu_xPeek) pu_xNil)) pu_xC))))) (pus_frz (pus_ret pu_xVar))))
def f__law_grouping : Sm := (sSeq (sSet 2 (xCall m__law_pick (xCons (xVar 0) (xCons (xLst (xCons (xC (.int 2)) (xCons (xC (.int 3)) (xCons (xC (.int 7)) xNil)))) xNil)))) (sRet (xCall m__law_numbered (xCons (xLc [3] (.nm 3) (xIt kRg (xVar 1)) xYes (xCall m__law_draw (xCons (xVar 0) (xCons (xVar 2) xNil)))) xNil))))
def m__law_grouping : List D → M D := runF 4 f__law_grouping
-- _law_grouping draws (m__law_pick)
def f__law_groups : Sm := (sRet (xLc [1] (.nm 1) (xIt kRg (x2 kAdd (xCall kMax (xCons (xVar 0) xNil)) (xC (.int 1)))) xYes (xLc [2] (.nm 2) (xIt kRg (xCall kLen (xCons (xVar 0) xNil))) (xT (x2 kEq (x2 kIx (xVar 0) (xVar 2)) (xVar 1))) (xVar 2))))
def m__law_groups : List D → M D := runF 3 f__law_groups
theorem pu_m__law_groups : ∀ ds : List D, Pu (m__law_groups ds) := pu_runF (b := f__law_groups) (pus_ret (pu_xLc (pu_xIt pu_kRg (pu_x2 pu_kAdd (pu_xCall pu_kMax (pu_xCons pu_xVar pu_xNil)) pu_xC)) pu_xYes (pu_xLc (pu_xIt pu_kRg (pu_xCall pu_kLen (pu_xCons pu_xVar pu_xNil))) (pu_xT (pu_x2 pu_kEq (pu_x2 pu_kIx pu_xVar pu_xVar) pu_xVar)) pu_xVar)))
def f_check_both : Sm := (sSeq (sDrop (xCall m_check_grouping (xCons (xVar 0) xNil))) (sSeq (sDrop (xCall m_check_grouping (xCons (xVar 1) xNil))) (sIf (xT (x2 kNe (xCall kLen (xCons (xVar 0) xNil)) (xCall kLen (xCons (xVar 1) xNil)))) (sErr "BadGrouping") sNx)))
def m_check_both : List D → M D := runF 2 f_check_both
theorem pu_m_check_both : ∀ ds : List D, Pu (m_check_both ds) := pu_runF (b := f_check_both) (pus_seq (pus_drop (pu_xCall pu_m_check_grouping (pu_xCons pu_xVar pu_xNil))) (pus_seq (pus_drop (pu_xCall pu_m_check_grouping (pu_xCons pu_xVar pu_xNil))) (pus_if (pu_xT (pu_x2 pu_kNe (pu_xCall pu_kLen (pu_xCons pu_xVar pu_xNil)) (pu_xCall pu_kLen (pu_xCons pu_xVar pu_xNil)))) pus_err pus_nx)))
def b_is_finer_1 : Sm := (sIf (xAnd (xT (x2 kEq (x2 kIx (xVar 0) (xVar 2)) (x2 kIx (xVar 0) (xVar 3)))) (xT (x2 kNe (x2 kIx (xVar 1) (xVar 2)) (x2 kIx (xVar 1) (xVar 3))))) (sRet (xC (.bool false))) sNx)
def b_is_finer_2 : Sm := (sFor (xIt kRg (xVar 2)) (.nm 3) b_is_finer_1)
def f_is_finer : Sm := (sSeq (sFor (xIt kRg (xCall kLen (xCons (xVar 0) xNil))) (.nm 2) b_is_finer_2) (sRet (xC (.bool true))))
def m_is_finer : List D → M D := runF 4 f_is_finer
theorem pu_m_is_finer : ∀ ds : List D, Pu (m_is_finer ds) := pu_runF (b := f_is_finer) (pus_seq (pus_for (pu_xIt pu_kRg (pu_xCall pu_kLen (pu_xCons pu_xVar pu_xNil))) (pus_for (pu_xIt pu_kRg pu_xVar) (pus_if (pu_xAnd (pu_xT (pu_x2 pu_kEq (pu_x2 pu_kIx pu_xVar pu_xVar) (pu_x2 pu_kIx pu_xVar pu_xVar))) (pu_xT (pu_x2 pu_kNe (pu_x2 pu_kIx pu_xVar pu_xVar) (pu_x2 pu_kIx pu_xVar pu_xVar)))) (pus_ret pu_xC) pus_nx))) (pus_ret pu_xC))
def b_all_pairs_1 : Sm := (sExt 1 (xLc [3] (.nm 3) (fun ρ => M.bind ((xCons (x2 kAdd (xVar 2) (xC (.int 1))) (xCons (xVar 0) xNil)) ρ) kRg2) xYes (xTup (xCons (xVar 2) (xCons (xVar 3) xNil)))))
def f_all_pairs : Sm := (sSeq (sOwn 1 (xLst xNil)) (sSeq (sFor (xIt kRg (xVar 0)) (.nm 2) b_all_pairs_1) (sFrz 1 (sRet (xVar 1)))))
def m_all_pairs : List D → M D := runF 4 f_all_pairs
theorem pu_m_all_pairs : ∀ ds : List D, Pu (m_all_pairs ds) := pu_runF (b := f_all_pairs) (pus_seq (pus_own (pu_xLst pu_xNil)) (pus_seq (pus_for (pu_xIt pu_kRg pu_xVar) (pus_ext (pu_xLc (pu_xItL pu_kRg2 (pu_xCons (pu_x2 pu_kAdd pu_xVar pu_xC) (pu_xCons pu_xVar pu_xNil))) pu_xYes (pu_xTup (pu_xCons pu_xVar (pu_xCons pu_xVar pu_xNil)))))) (pus_frz (pus_ret pu_xVar))))
def f_together : Sm := (sRet (xLc [1, 2] (.tp [1, 2]) (xIt asL (xCall m_all_pairs (xCons (xCall kLen (xCons (xVar 0) xNil)) xNil))) (xT (x2 kEq (x2 kIx (xVar 0) (xVar 1)) (x2 kIx (xVar 0) (xVar 2)))) (xTup (xCons (xVar 1) (xCons (xVar 2) xNil)))))
def m_together : List D → M D := runF 3 f_together
theorem pu_m_together : ∀ ds : List D, Pu (m_together ds) := pu_runF (b := f_together) (pus_ret (pu_xLc (pu_xIt pu_asL (pu_xCall pu_m_all_pairs (pu_xCons (pu_xCall pu_kLen (pu_xCons pu_xVar pu_xNil)) pu_xNil))) (pu_xT (pu_x2 pu_kEq (pu_x2 pu_kIx pu_xVar pu_xVar) (pu_x2 pu_kIx pu_xVar pu_xVar))) (pu_xTup (pu_xCons pu_xVar (pu_xCons pu_xVar pu_xNil)))))
def f_pairs_together : Sm := (sSeq (sDrop (xCall m_check_grouping (xCons (xVar 0) xNil))) (sRet (xCall m_together (xCons (xVar 0) xNil))))
def m_pairs_together : List D → M D := runF 1 f_pairs_together
theorem pu_m_pairs_together : ∀ ds : List D, Pu (m_pairs_together ds) := pu_runF (b := f_pairs_together) (pus_seq (pus_drop (pu_xCall pu_m_check_grouping (pu_xCons pu_xVar pu_xNil))) (pus_ret (pu_xCall pu_m_together (pu_xCons pu_xVar pu_xNil))))
def b_outcomes_1 : Sm := (sSeq (sPar 5 6 (xCons (x2 kEq (x2 kIx (xVar 0) (xVar 3)) (x2 kIx (xVar 0) (xVar 4))) (xCons (x2 kEq (x2 kIx (xVar 1) (xVar 3)) (x2 kIx (xVar 1) (xVar 4))) xNil))) (sAugAt 2 (fun i j => i + j) (xIf (xT (xVar 5)) (xIf (xT (xVar 6)) (xC (.int 0)) (xC (.int 1))) (xIf (xT (xVar 6)) (xC (.int 2)) (xC (.int 3)))) (xC (.int 1))))
def f_outcomes : Sm := (sSeq (sOwn 2 (xLst (xCons (xC (.int 0)) (xCons (xC (.int 0)) (xCons (xC (.int 0)) (xCons (xC (.int 0)) xNil)))))) (sSeq (sFor (xIt asL (xCall m_all_pairs (xCons (xCall kLen (xCons (xVar 0) xNil)) xNil))) (.tp [3, 4]) b_outcomes_1) (sFrz 2 (sRet (xVar 2)))))
def m_outcomes : List D → M D := runF 7 f_outcomes
theorem pu_m_outcomes : ∀ ds : List D, Pu (m_outcomes ds) := pu_runF (b := f_outcomes) (pus_seq (pus_own (pu_xLst (pu_xCons pu_xC (pu_xCons pu_xC (pu_xCons pu_xC (pu_xCons pu_xC pu_xNil)))))) (pus_seq (pus_for (pu_xIt pu_asL (pu_xCall pu_m_all_pairs (pu_xCons (pu_xCall pu_kLen (pu_xCons pu_xVar pu_xNil)) pu_xNil))) (pus_seq (pus_par (pu_xCons (pu_x2 pu_kEq (pu_x2 pu_kIx pu_xVar pu_xVar) (pu_x2 pu_kIx pu_xVar pu_xVar)) (pu_xCons (pu_x2 pu_kEq (pu_x2 pu_kIx pu_xVar pu_xVar) (pu_x2 pu_kIx pu_xVar pu_xVar)) pu_xNil))) (pus_augAt (pu_xIf (pu_xT pu_xVar) (pu_xIf (pu_xT pu_xVar) pu_xC pu_xC) (pu_xIf (pu_xT pu_xVar) pu_xC pu_xC)) pu_xC))) (pus_frz (pus_ret pu_xVar))))
def f_pair_counts : Sm := (sSeq (sDrop (xCall m_check_both (xCons (xVar 0) (xCons (xVar 1) xNil)))) (sRet (xCall kTuple (xCons (xCall m_outcomes (xCons (xVar 0) (xCons (xVar 1) xNil))) xNil))))
def m_pair_counts : List D → M D := runF 2 f_pair_counts
theorem pu_m_pair_counts : ∀ ds : List D, Pu (m_pair_counts ds) := pu_runF (b := f_pair_counts) (pus_seq (pus_drop (pu_xCall pu_m_check_both (pu_xCons pu_xVar (pu_xCons pu_xVar pu_xNil)))) (pus_ret (pu_xCall pu_kTuple (pu_xCons (pu_xCall pu_m_outcomes (pu_xCons pu_xVar (pu_xCons pu_xVar pu_xNil))) pu_xNil))))
def f_unlike_pairs : Sm := (sSeq (sDrop (xCall m_check_both (xCons (xVar 0) (xCons (xVar 1) xNil)))) (sRet (xLc [2, 3] (.tp [2, 3]) (xIt asL (xCall m_all_pairs (xCons (xCall kLen (xCons (xVar 0) xNil)) xNil))) (xT (x2 kNe (x2 kEq (x2 kIx (xVar 0) (xVar 2)) (x2 kIx (xVar 0) (xVar 3))) (x2 kEq (x2 kIx (xVar 1) (xVar 2)) (x2 kIx (xVar 1) (xVar 3))))) (xTup (xCons (xVar 2) (xCons (xVar 3) xNil))))))
def m_unlike_pairs : List D → M D := runF 4 f_unlike_pairs
theorem pu_m_unlike_pairs : ∀ ds : List D, Pu (m_unlike_pairs ds) := pu_runF (b := f_unlike_pairs) (pus_seq (pus_drop (pu_xCall pu_m_check_both (pu_xCons pu_xVar (pu_xCons pu_xVar pu_xNil)))) (pus_ret (pu_xLc (pu_xIt pu_asL (pu_xCall pu_m_all_pairs (pu_xCons (pu_xCall pu_kLen (pu_xCons pu_xVar pu_xNil)) pu_xNil))) (pu_xT (pu_x2 pu_kNe (pu_x2 pu_kEq (pu_x2 pu_kIx pu_xVar pu_xVar) (pu_x2 pu_kIx pu_xVar pu_xVar)) (pu_x2 pu_kEq (pu_x2 pu_kIx pu_xVar pu_xVar) (pu_x2 pu_kIx pu_xVar pu_xVar)))) (pu_xTup (pu_xCons pu_xVar (pu_xCons pu_xVar pu_xNil))))))
def f_distance : Sm := (sSeq (sSet 2 (xCall m_outcomes (xCons (xVar 0) (xCons (xVar 1) xNil)))) (sRet (x2 kAdd (x2 kIx (xVar 2) (xC (.int 1))) (x2 kIx (xVar 2) (xC (.int 2))))))
def m_distance : List D → M D := runF 3 f_distance
theorem pu_m_distance : ∀ ds : List D, Pu (m_distance ds) := pu_runF (b := f_distance) (pus_seq (pus_set (pu_xCall pu_m_outcomes (pu_xCons pu_xVar (pu_xCons pu_xVar pu_xNil)))) (pus_ret (pu_x2 pu_kAdd (pu_x2 pu_kIx pu_xVar pu_xC) (pu_x2 pu_kIx pu_xVar pu_xC))))
def f_pair_distance : Sm := (sSeq (sDrop (xCall m_check_both (xCons (xVar 0) (xCons (xVar 1) xNil)))) (sRet (xCall m_distance (xCons (xVar 0) (xCons (xVar 1) xNil)))))
def m_pair_distance : List D → M D := runF 2 f_pair_distance
theorem pu_m_pair_distance : ∀ ds : List D, Pu (m_pair_distance ds) := pu_runF (b := f_pair_distance) (pus_seq (pus_drop (pu_xCall pu_m_check_both (pu_xCons pu_xVar (pu_xCons pu_xVar pu_xNil)))) (pus_ret (pu_xCall pu_m_distance (pu_xCons pu_xVar (pu_xCons pu_xVar pu_xNil)))))
def b_common_1 : Sm := (sPar 0 1 (xCons (xVar 1) (xCons (x2 kMod (xVar 0) (xVar 1)) xNil)))
def f_common : Sm := (sSeq (sWhile (xT (x2 kNe (xVar 1) (xC (.int 0)))) b_common_1) (sRet (xVar 0)))
def m_common : List D → M D := runF 2 f_common
theorem pu_m_common : ∀ ds : List D, Pu (m_common ds) := pu_runF (b := f_common) (pus_seq (pus_while (pu_xT (pu_x2 pu_kNe pu_xVar pu_xC)) (pus_par (pu_xCons pu_xVar (pu_xCons (pu_x2 pu_kMod pu_xVar pu_xVar) pu_xNil)))) (pus_ret pu_xVar))
def f_lowest : Sm := (sSeq (sSet 2 (xCall m_common (xCons (xVar 0) (xCons (xVar 1) xNil)))) (sRet (xTup (xCons (x2 kDiv (xVar 0) (xVar 2)) (xCons (x2 kDiv (xVar 1) (xVar 2)) xNil)))))
def m_lowest : List D → M D := runF 3 f_lowest
theorem pu_m_lowest : ∀ ds : List D, Pu (m_lowest ds) := pu_runF (b := f_lowest) (pus_seq (pus_set (pu_xCall pu_m_common (pu_xCons pu_xVar (pu_xCons pu_xVar pu_xNil)))) (pus_ret (pu_xTup (pu_xCons (pu_x2 pu_kDiv pu_xVar pu_xVar) (pu_xCons (pu_x2 pu_kDiv pu_xVar pu_xVar) pu_xNil)))))
def f_agreement : Sm := (sSeq (sDrop (xCall m_check_both (xCons (xVar 0) (xCons (xVar 1) xNil)))) (sSeq (sSet 2 (xCall kLen (xCons (xVar 0) xNil))) (sSeq (sIf (xT (x2 kEq (xVar 2) (xC (.int 1)))) (sErr "NotFound") sNx) (sSeq (sSet 3 (x2 kDiv (x2 kMul (xVar 2) (x2 kSub (xVar 2) (xC (.int 1)))) (xC (.int 2)))) (sRet (xCall m_lowest (xCons (x2 kSub (xVar 3) (xCall m_distance (xCons (xVar 0) (xCons (xVar 1) xNil)))) (xCons (xVar 3) xNil))))))))
def m_agreement : List D → M D := runF 4 f_agreement
theorem pu_m_agreement : ∀ ds : List D, Pu (m_agreement ds) := pu_runF (b := f_agreement) (pus_seq (pus_drop (pu_xCall pu_m_check_both (pu_xCons pu_xVar (pu_xCons pu_xVar pu_xNil)))) (pus_seq (pus_set (pu_xCall pu_kLen (pu_xCons pu_xVar pu_xNil))) (pus_seq (pus_if (pu_xT (pu_x2 pu_kEq pu_xVar pu_xC)) pus_err pus_nx) (pus_seq (pus_set (pu_x2 pu_kDiv (pu_x2 pu_kMul pu_xVar (pu_x2 pu_kSub pu_xVar pu_xC)) pu_xC)) (pus_ret (pu_xCall pu_m_lowest (pu_xCons (pu_x2 pu_kSub pu_xVar (pu_xCall pu_m_distance (pu_xCons pu_xVar (pu_xCons pu_xVar pu_xNil)))) (pu_xCons pu_xVar pu_xNil))))))))
def f_shared_share : Sm := (sSeq (sDrop (xCall m_check_both (xCons (xVar 0) (xCons (xVar 1) xNil)))) (sSeq (sUnp [2, 3, 4, 5] (xCall m_outcomes (xCons (xVar 0) (xCons (xVar 1) xNil)))) (sSeq (sIf (xT (x2 kEq (x2 kAdd (x2 kAdd (xVar 2) (xVar 3)) (xVar 4)) (xC (.int 0)))) (sErr "NotFound") sNx) (sRet (xCall m_lowest (xCons (xVar 2) (xCons (x2 kAdd (x2 kAdd (xVar 2) (xVar 3)) (xVar 4)) xNil)))))))
def m_shared_share : List D → M D := runF 6 f_shared_share
theorem pu_m_shared_share : ∀ ds : List D, Pu (m_shared_share ds) := pu_runF (b := f_shared_share) (pus_seq (pus_drop (pu_xCall pu_m_check_both (pu_xCons pu_xVar (pu_xCons pu_xVar pu_xNil)))) (pus_seq (pus_unp (pu_xCall pu_m_outcomes (pu_xCons pu_xVar (pu_xCons pu_xVar pu_xNil)))) (pus_seq (pus_if (pu_xT (pu_x2 pu_kEq (pu_x2 pu_kAdd (pu_x2 pu_kAdd pu_xVar pu_xVar) pu_xVar) pu_xC)) pus_err pus_nx) (pus_ret (pu_xCall pu_m_lowest (pu_xCons pu_xVar (pu_xCons (pu_x2 pu_kAdd (pu_x2 pu_kAdd pu_xVar pu_xVar) pu_xVar) pu_xNil)))))))
def f_finer : Sm := (sSeq (sDrop (xCall m_check_both (xCons (xVar 0) (xCons (xVar 1) xNil)))) (sRet (xCall m_is_finer (xCons (xVar 0) (xCons (xVar 1) xNil)))))
def m_finer : List D → M D := runF 2 f_finer
theorem pu_m_finer : ∀ ds : List D, Pu (m_finer ds) := pu_runF (b := f_finer) (pus_seq (pus_drop (pu_xCall pu_m_check_both (pu_xCons pu_xVar (pu_xCons pu_xVar pu_xNil)))) (pus_ret (pu_xCall pu_m_is_finer (pu_xCons pu_xVar (pu_xCons pu_xVar pu_xNil)))))
def b_cross_table_1 : Sm := (sApp 4 (xCall kLen (xCons (xLc [6, 7] (.tp [6, 7]) (fun ρ => M.bind ((xCons (xVar 0) (xCons (xVar 1) xNil)) ρ) kZip) (xT (x2 kEq (xTup (xCons (xVar 6) (xCons (xVar 7) xNil))) (xTup (xCons (xVar 3) (xCons (xVar 5) xNil))))) (xC (.int 1))) xNil)))
def b_cross_table_2 : Sm := (sSeq (sOwn 4 (xLst xNil)) (sSeq (sFor (xIt kRg (x2 kAdd (xCall kMax (xCons (xVar 1) xNil)) (xC (.int 1)))) (.nm 5) b_cross_table_1) (sFrz 4 (sApp 2 (xVar 4)))))
def f_cross_table : Sm := (sSeq (sDrop (xCall m_check_both (xCons (xVar 0) (xCons (xVar 1) xNil)))) (sSeq (sOwn 2 (xLst xNil)) (sSeq (sFor (xIt kRg (x2 kAdd (xCall kMax (xCons (xVar 0) xNil)) (xC (.int 1)))) (.nm 3) b_cross_table_2) (sFrz 2 (sRet (xVar 2))))))
def m_cross_table : List D → M D := runF 8 f_cross_table
theorem pu_m_cross_table : ∀ ds : List D, Pu (m_cross_table ds) := pu_runF (b := f_cross_table) (pus_seq (pus_drop (pu_xCall pu_m_check_both (pu_xCons pu_xVar (pu_xCons pu_xVar pu_xNil)))) (pus_seq (pus_own (pu_xLst pu_xNil)) (pus_seq (pus_for (pu_xIt pu_kRg (pu_x2 pu_kAdd (pu_xCall pu_kMax (pu_xCons pu_xVar pu_xNil)) pu_xC)) (pus_seq (pus_own (pu_xLst pu_xNil)) (pus_seq (pus_for (pu_xIt pu_kRg (pu_x2 pu_kAdd (pu_xCall pu_kMax (pu_xCons pu_xVar pu_xNil)) pu_xC)) (pus_app (pu_xCall pu_kLen (pu_xCons (pu_xLc (pu_xItL pu_kZip (pu_xCons pu_xVar (pu_xCons pu_xVar pu_xNil))) (pu_xT (pu_x2 pu_kEq (pu_xTup (pu_xCons pu_xVar (pu_xCons pu_xVar pu_xNil))) (pu_xTup (pu_xCons pu_xVar (pu_xCons pu_xVar pu_xNil))))) pu_xC) pu_xNil)))) (pus_frz (pus_app pu_xVar))))) (pus_frz (pus_ret pu_xVar)))))
def f__law_error : Sm := (sSeq (sSet 1 (xLst (xCons (x1 (kIsE "BadGrouping") (xVar 0)) (xCons (x1 (kIsE "BadNumber") (xVar 0)) (xCons (x1 (kIsE "BadPairs") (xVar 0)) xNil))))) (sSeq (sSet 1 (x2 kAdd (xVar 1) (xLst (xCons (x1 (kIsE "BadText") (xVar 0)) (xCons (x1 (kIsE "NotFound") (xVar 0)) xNil))))) (sSeq (sIf (xOr (xT (x2 kNe (xMeth "list" kCountB (xVar 1) (xCons (xC (.bool true)) xNil)) (xC (.int 1)))) (xOr (xNot (xT (x1 (kIsE "GroupError") (xVar 0)))) (xNot (xT (x1 (kIsE "ValueError") (xVar 0)))))) (sRet (xC (.str "odd"))) sNx) (sRet (x2 kIx (xLst (xCons (xC (.str "grouping")) (xCons (xC (.str "number")) (xCons (xC (.str "pairs")) (xCons (xC (.str "text")) (xCons (xC (.str "none")) xNil)))))) (xMeth "list" kIndex (xVar 1) (xCons (xC (.bool true)) xNil)))))))
def m__law_error : List D → M D := runF 2 f__law_error
theorem pu_m__law_error : ∀ ds : List D, Pu (m__law_error ds) := pu_runF (b := f__law_error) (pus_seq (pus_set (pu_xLst (pu_xCons (pu_x1 (pu_kIsE "BadGrouping") pu_xVar) (pu_xCons (pu_x1 (pu_kIsE "BadNumber") pu_xVar) (pu_xCons (pu_x1 (pu_kIsE "BadPairs") pu_xVar) pu_xNil))))) (pus_seq (pus_set (pu_x2 pu_kAdd pu_xVar (pu_xLst (pu_xCons (pu_x1 (pu_kIsE "BadText") pu_xVar) (pu_xCons (pu_x1 (pu_kIsE "NotFound") pu_xVar) pu_xNil))))) (pus_seq (pus_if (pu_xOr (pu_xT (pu_x2 pu_kNe (pu_xMeth pu_kCountB pu_xVar (pu_xCons pu_xC pu_xNil)) pu_xC)) (pu_xOr (pu_xNot (pu_xT (pu_x1 (pu_kIsE "GroupError") pu_xVar))) (pu_xNot (pu_xT (pu_x1 (pu_kIsE "ValueError") pu_xVar))))) (pus_ret pu_xC) pus_nx) (pus_ret (pu_x2 pu_kIx (pu_xLst (pu_xCons pu_xC (pu_xCons pu_xC (pu_xCons pu_xC (pu_xCons pu_xC (pu_xCons pu_xC pu_xNil)))))) (pu_xMeth pu_kIndex pu_xVar (pu_xCons pu_xC pu_xNil)))))))
def b__law_pairs_1 : Sm := (sSet 1 (x2 kAdd (xVar 1) (xLc [3] (.nm 3) (fun ρ => M.bind ((xCons (x2 kAdd (xVar 2) (xC (.int 1))) (xCons (xVar 0) xNil)) ρ) kRg2) xYes (xTup (xCons (xVar 2) (xCons (xVar 3) xNil))))))
def f__law_pairs : Sm := (sSeq (sSet 1 (xLst xNil)) (sSeq (sFor (xIt kRg (xVar 0)) (.nm 2) b__law_pairs_1) (sRet (xVar 1))))
def m__law_pairs : List D → M D := runF 4 f__law_pairs
theorem pu_m__law_pairs : ∀ ds : List D, Pu (m__law_pairs ds) := pu_runF (b := f__law_pairs) (pus_seq (pus_set (pu_xLst pu_xNil)) (pus_seq (pus_for (pu_xIt pu_kRg pu_xVar) (pus_set (pu_x2 pu_kAdd pu_xVar (pu_xLc (pu_xItL pu_kRg2 (pu_xCons (pu_x2 pu_kAdd pu_xVar pu_xC) (pu_xCons pu_xVar pu_xNil))) pu_xYes (pu_xTup (pu_xCons pu_xVar (pu_xCons pu_xVar pu_xNil))))))) (pus_ret pu_xVar)))
def f__law_apart : Sm := (sRet (xLc [2, 3] (.tp [2, 3]) (xIt asL (xCall m__law_pairs (xCons (xCall kLen (xCons (xVar 0) xNil)) xNil))) (xT (x2 kNe (x2 kEq (x2 kIx (xVar 0) (xVar 2)) (x2 kIx (xVar 0) (xVar 3))) (x2 kEq (x2 kIx (xVar 1) (xVar 2)) (x2 kIx (xVar 1) (xVar 3))))) (xTup (xCons (xVar 2) (xCons (xVar 3) xNil)))))
def m__law_apart : List D → M D := runF 4 f__law_apart
theorem pu_m__law_apart : ∀ ds : List D, Pu (m__law_apart ds) := pu_runF (b := f__law_apart) (pus_ret (pu_xLc (pu_xIt pu_asL (pu_xCall pu_m__law_pairs (pu_xCons (pu_xCall pu_kLen (pu_xCons pu_xVar pu_xNil)) pu_xNil))) (pu_xT (pu_x2 pu_kNe (pu_x2 pu_kEq (pu_x2 pu_kIx pu_xVar pu_xVar) (pu_x2 pu_kIx pu_xVar pu_xVar)) (pu_x2 pu_kEq (pu_x2 pu_kIx pu_xVar pu_xVar) (pu_x2 pu_kIx pu_xVar pu_xVar)))) (pu_xTup (pu_xCons pu_xVar (pu_xCons pu_xVar pu_xNil)))))
def b__law_low_1 : Sm := (sPar 2 3 (xCons (xVar 3) (xCons (x2 kMod (xVar 2) (xVar 3)) xNil)))
def f__law_low : Sm := (sSeq (sPar 2 3 (xCons (xCall kAbs (xCons (xVar 0) xNil)) (xCons (xVar 1) xNil))) (sSeq (sWhile (xT (x2 kNe (xVar 3) (xC (.int 0)))) b__law_low_1) (sRet (xTup (xCons (x2 kDiv (xVar 0) (xVar 2)) (xCons (x2 kDiv (xVar 1) (xVar 2)) xNil))))))
def m__law_low : List D → M D := runF 4 f__law_low
theorem pu_m__law_low : ∀ ds : List D, Pu (m__law_low ds) := pu_runF (b := f__law_low) (pus_seq (pus_par (pu_xCons (pu_xCall pu_kAbs (pu_xCons pu_xVar pu_xNil)) (pu_xCons pu_xVar pu_xNil))) (pus_seq (pus_while (pu_xT (pu_x2 pu_kNe pu_xVar pu_xC)) (pus_par (pu_xCons pu_xVar (pu_xCons (pu_x2 pu_kMod pu_xVar pu_xVar) pu_xNil)))) (pus_ret (pu_xTup (pu_xCons (pu_x2 pu_kDiv pu_xVar pu_xVar) (pu_xCons (pu_x2 pu_kDiv pu_xVar pu_xVar) pu_xNil))))))
def m_pairings : Nat → List D → M D
  | 0 => fun _ => M.bad
  | d + 1 => runF 5 ((sSeq (sIf (xT (x2 kEq (xVar 0) (xC (.int 0)))) (sRet (xLst (xCons (xLst xNil) xNil))) sNx)
    (sSeq (sOwn 2 (xLst xNil))
    (sSeq (sFor (xIt asL (xCall (m_pairings d) (xCons (x2 kSub (xVar 0) (xC (.int 1))) (xCons (xVar 1) xNil)))) (.nm 3) (sSeq (sExt 2 (xLc [4] (.nm 4) (xIt kRg (xVar 1)) (xT (x2 kNotIn (xVar 4) (xVar 3))) (x2 kAdd (xVar 3) (xLst (xCons (xVar 4) xNil)))))
    (sApp 2 (x2 kAdd (xVar 3) (xLst (xCons (xC .none) xNil))))))
    (sFrz 2 (sRet (xVar 2)))))))
theorem pu_m_pairings : ∀ (d : Nat) (ds : List D), Pu (m_pairings d ds)
  | 0 => fun _ => pu_bad
  | d + 1 => pu_runF (pus_seq (pus_if (pu_xT (pu_x2 pu_kEq pu_xVar pu_xC)) (pus_ret (pu_xLst (pu_xCons (pu_xLst pu_xNil) pu_xNil))) pus_nx) (pus_seq (pus_own (pu_xLst pu_xNil)) (pus_seq (pus_for (pu_xIt pu_asL (pu_xCall (pu_m_pairings d) (pu_xCons (pu_x2 pu_kSub pu_xVar pu_xC) (pu_xCons pu_xVar pu_xNil)))) (pus_seq (pus_ext (pu_xLc (pu_xIt pu_kRg pu_xVar) (pu_xT (pu_x2 pu_kNotIn pu_xVar pu_xVar)) (pu_x2 pu_kAdd pu_xVar (pu_xLst (pu_xCons pu_xVar pu_xNil))))) (pus_app (pu_x2 pu_kAdd pu_xVar (pu_xLst (pu_xCons pu_xC pu_xNil)))))) (pus_frz (pus_ret pu_xVar)))))
def b_best_pairing_1 : Sm := (sSeq (sSet 6 (xCall kSum (xCons (xLc [7, 8] (.tp [7, 8]) (fun ρ => M.bind ((xCons (xVar 2) (xCons (xVar 5) xNil)) ρ) kZip) (xT (x2 kIsNot (xVar 8) (xC .none))) (x2 kIx (xVar 7) (xVar 8))) xNil))) (sIf (xT (x2 kGt (xVar 6) (xVar 4))) (sPar 3 4 (xCons (xVar 5) (xCons (xVar 6) xNil))) sNx))
def f_best_pairing : Sm := (sSeq (sSet 2 (xCall m_cross_table (xCons (xVar 0) (xCons (xVar 1) xNil)))) (sSeq (sTgt (.tp [3, 4]) (xTup (xCons (xC .none) (xCons (x1 kNeg (xC (.int 1))) xNil)))) (sSeq (sFor (xIt asL (xCall (m_pairings 9) (xCons (xCall kLen (xCons (xVar 2) xNil)) (xCons (xCall kLen (xCons (x2 kIx (xVar 2) (xC (.int 0))) xNil)) xNil)))) (.nm 5) b_best_pairing_1) (sRet (xVar 3)))))
def m_best_pairing : List D → M D := runF 9 f_best_pairing
theorem pu_m_best_pairing : ∀ ds : List D, Pu (m_best_pairing ds) := pu_runF (b := f_best_pairing) (pus_seq (pus_set (pu_xCall pu_m_cross_table (pu_xCons pu_xVar (pu_xCons pu_xVar pu_xNil)))) (pus_seq (pus_tgt (pu_xTup (pu_xCons pu_xC (pu_xCons (pu_x1 pu_kNeg pu_xC) pu_xNil)))) (pus_seq (pus_for (pu_xIt pu_asL (pu_xCall (pu_m_pairings 9) (pu_xCons (pu_xCall pu_kLen (pu_xCons pu_xVar pu_xNil)) (pu_xCons (pu_xCall pu_kLen (pu_xCons (pu_x2 pu_kIx pu_xVar pu_xC) pu_xNil)) pu_xNil)))) (pus_seq (pus_set (pu_xCall pu_kSum (pu_xCons (pu_xLc (pu_xItL pu_kZip (pu_xCons pu_xVar (pu_xCons pu_xVar pu_xNil))) (pu_xT (pu_x2 pu_kIsNot pu_xVar pu_xC)) (pu_x2 pu_kIx pu_xVar pu_xVar)) pu_xNil))) (pus_if (pu_xT (pu_x2 pu_kGt pu_xVar pu_xVar)) (pus_par (pu_xCons pu_xVar (pu_xCons pu_xVar pu_xNil))) pus_nx))) (pus_ret pu_xVar))))
def f_moved_things : Sm := (sSeq (sSet 2 (xCall m_best_pairing (xCons (xVar 0) (xCons (xVar 1) xNil)))) (sRet (xLc [3] (.nm 3) (xIt kRg (xCall kLen (xCons (xVar 0) xNil))) (xT (x2 kNe (x2 kIx (xVar 2) (x2 kIx (xVar 0) (xVar 3))) (x2 kIx (xVar 1) (xVar 3)))) (xVar 3))))
def m_moved_things : List D → M D := runF 4 f_moved_things
theorem pu_m_moved_things : ∀ ds : List D, Pu (m_moved_things ds) := pu_runF (b := f_moved_things) (pus_seq (pus_set (pu_xCall pu_m_best_pairing (pu_xCons pu_xVar (pu_xCons pu_xVar pu_xNil)))) (pus_ret (pu_xLc (pu_xIt pu_kRg (pu_xCall pu_kLen (pu_xCons pu_xVar pu_xNil))) (pu_xT (pu_x2 pu_kNe (pu_x2 pu_kIx pu_xVar (pu_x2 pu_kIx pu_xVar pu_xVar)) (pu_x2 pu_kIx pu_xVar pu_xVar))) pu_xVar)))
def f_count_moves : Sm := (sSeq (sDrop (xCall m_check_both (xCons (xVar 0) (xCons (xVar 1) xNil)))) (sRet (xCall kLen (xCons (xCall m_moved_things (xCons (xVar 0) (xCons (xVar 1) xNil))) xNil))))
def m_count_moves : List D → M D := runF 2 f_count_moves
theorem pu_m_count_moves : ∀ ds : List D, Pu (m_count_moves ds) := pu_runF (b := f_count_moves) (pus_seq (pus_drop (pu_xCall pu_m_check_both (pu_xCons pu_xVar (pu_xCons pu_xVar pu_xNil)))) (pus_ret (pu_xCall pu_kLen (pu_xCons (pu_xCall pu_m_moved_things (pu_xCons pu_xVar (pu_xCons pu_xVar pu_xNil))) pu_xNil))))
def f_moves : Sm := (sSeq (sDrop (xCall m_check_both (xCons (xVar 0) (xCons (xVar 1) xNil)))) (sRet (xCall m_moved_things (xCons (xVar 0) (xCons (xVar 1) xNil)))))
def m_moves : List D → M D := runF 2 f_moves
theorem pu_m_moves : ∀ ds : List D, Pu (m_moves ds) := pu_runF (b := f_moves) (pus_seq (pus_drop (pu_xCall pu_m_check_both (pu_xCons pu_xVar (pu_xCons pu_xVar pu_xNil)))) (pus_ret (pu_xCall pu_m_moved_things (pu_xCons pu_xVar (pu_xCons pu_xVar pu_xNil)))))
def f_are_enough : Sm := (sSeq (sDrop (xCall m_check_both (xCons (xVar 0) (xCons (xVar 1) xNil)))) (sSeq (sIf (xOr (xNot (xT (x1 (kIsi "list") (xVar 2)))) (xNot (xT (xCall kAll (xCons (xLc [4] (.nm 4) (xIt asL (xVar 2)) xYes (xCall m_is_int (xCons (xVar 4) (xCons (xC (.int 0)) (xCons (x2 kSub (xCall kLen (xCons (xVar 0) xNil)) (xC (.int 1))) xNil))))) xNil))))) (sErr "BadNumber") sNx) (sSeq (sSet 3 (xLc [5] (.nm 5) (xIt kRg (xCall kLen (xCons (xVar 0) xNil))) (xT (x2 kNotIn (xVar 5) (xVar 2))) (xVar 5))) (sRet (x2 kEq (xCall m_numbered (xCons (xLc [5] (.nm 5) (xIt asL (xVar 3)) xYes (x2 kIx (xVar 0) (xVar 5))) xNil)) (xCall m_numbered (xCons (xLc [5] (.nm 5) (xIt asL (xVar 3)) xYes (x2 kIx (xVar 1) (xVar 5))) xNil)))))))
def m_are_enough : List D → M D := runF 6 f_are_enough
theorem pu_m_are_enough : ∀ ds : List D, Pu (m_are_enough ds) := pu_runF (b := f_are_enough) (pus_seq (pus_drop (pu_xCall pu_m_check_both (pu_xCons pu_xVar (pu_xCons pu_xVar pu_xNil)))) (pus_seq (pus_if (pu_xOr (pu_xNot (pu_xT (pu_x1 (pu_kIsi "list") pu_xVar))) (pu_xNot (pu_xT (pu_xCall pu_kAll (pu_xCons (pu_xLc (pu_xIt pu_asL pu_xVar) pu_xYes (pu_xCall pu_m_is_int (pu_xCons pu_xVar (pu_xCons pu_xC (pu_xCons (pu_x2 pu_kSub (pu_xCall pu_kLen (pu_xCons pu_xVar pu_xNil)) pu_xC) pu_xNil))))) pu_xNil))))) pus_err pus_nx) (pus_seq (pus_set (pu_xLc (pu_xIt pu_kRg (pu_xCall pu_kLen (pu_xCons pu_xVar pu_xNil))) (pu_xT (pu_x2 pu_kNotIn pu_xVar pu_xVar)) pu_xVar)) (pus_ret (pu_x2 pu_kEq (pu_xCall pu_m_numbered (pu_xCons (pu_xLc (pu_xIt pu_asL pu_xVar) pu_xYes (pu_x2 pu_kIx pu_xVar pu_xVar)) pu_xNil)) (pu_xCall pu_m_numbered (pu_xCons (pu_xLc (pu_xIt pu_asL pu_xVar) pu_xYes (pu_x2 pu_kIx pu_xVar pu_xVar)) pu_xNil)))))))
def f_put_into : Sm := (sSeq (sDrop (xCall m_check_grouping (xCons (xVar 0) xNil))) (sSeq (sIf (xNot (xT (xCall m_is_int (xCons (xVar 1) (xCons (xC (.int 0)) (xCons (x2 kSub (xCall kLen (xCons (xVar 0) xNil)) (xC (.int 1))) xNil)))))) (sErr "BadNumber") sNx) (sSeq (sIf (xNot (xT (xCall m_is_int (xCons (xVar 2) (xCons (xC (.int 0)) (xCons (x2 kAdd (xCall kMax (xCons (xVar 0) xNil)) (xC (.int 1))) xNil)))))) (sErr "BadNumber") sNx) (sRet (xCall m_numbered (xCons (x2 kAdd (x2 kAdd (xSl (xVar 0) xNoPart (xPart (xVar 1))) (xLst (xCons (xVar 2) xNil))) (xSl (xVar 0) (xPart (x2 kAdd (xVar 1) (xC (.int 1)))) xNoPart)) xNil))))))
def m_put_into : List D → M D := runF 3 f_put_into
theorem pu_m_put_into : ∀ ds : List D, Pu (m_put_into ds) := pu_runF (b := f_put_into) (pus_seq (pus_drop (pu_xCall pu_m_check_grouping (pu_xCons pu_xVar pu_xNil))) (pus_seq (pus_if (pu_xNot (pu_xT (pu_xCall pu_m_is_int (pu_xCons pu_xVar (pu_xCons pu_xC (pu_xCons (pu_x2 pu_kSub (pu_xCall pu_kLen (pu_xCons pu_xVar pu_xNil)) pu_xC) pu_xNil)))))) pus_err pus_nx) (pus_seq (pus_if (pu_xNot (pu_xT (pu_xCall pu_m_is_int (pu_xCons pu_xVar (pu_xCons pu_xC (pu_xCons (pu_x2 pu_kAdd (pu_xCall pu_kMax (pu_xCons pu_xVar pu_xNil)) pu_xC) pu_xNil)))))) pus_err pus_nx) (pus_ret (pu_xCall pu_m_numbered (pu_xCons (pu_x2 pu_kAdd (pu_x2 pu_kAdd (pu_xSl pu_xVar pu_xNoPart (pu_xPart pu_xVar)) (pu_xLst (pu_xCons pu_xVar pu_xNil))) (pu_xSl pu_xVar (pu_xPart (pu_x2 pu_kAdd pu_xVar pu_xC)) pu_xNoPart)) pu_xNil))))))
def f_greatest_shared : Sm := (sSeq (sDrop (xCall m_check_both (xCons (xVar 0) (xCons (xVar 1) xNil)))) (sRet (x2 kSub (xCall kLen (xCons (xVar 0) xNil)) (xCall kLen (xCons (xCall m_moved_things (xCons (xVar 0) (xCons (xVar 1) xNil))) xNil)))))
def m_greatest_shared : List D → M D := runF 2 f_greatest_shared
theorem pu_m_greatest_shared : ∀ ds : List D, Pu (m_greatest_shared ds) := pu_runF (b := f_greatest_shared) (pus_seq (pus_drop (pu_xCall pu_m_check_both (pu_xCons pu_xVar (pu_xCons pu_xVar pu_xNil)))) (pus_ret (pu_x2 pu_kSub (pu_xCall pu_kLen (pu_xCons pu_xVar pu_xNil)) (pu_xCall pu_kLen (pu_xCons (pu_xCall pu_m_moved_things (pu_xCons pu_xVar (pu_xCons pu_xVar pu_xNil))) pu_xNil)))))
def m__law_shared : Nat → List D → M D
  | 0 => fun _ => M.bad
  | d + 1 => runF 5 ((sSeq (sIf (xT (x2 kEq (xVar 0) (xLst xNil))) (sRet (xC (.int 0))) sNx)
    (sSeq (sSet 1 (xCall (m__law_shared d) (xCons (xSl (xVar 0) (xPart (xC (.int 1))) xNoPart) xNil)))
    (sSeq (sFor (xIt kRg (xCall kLen (xCons (x2 kIx (xVar 0) (xC (.int 0))) xNil))) (.nm 2) (sIf (xT (x2 kGt (x2 kIx (x2 kIx (xVar 0) (xC (.int 0))) (xVar 2)) (xC (.int 0)))) (sSeq (sSet 3 (xLc [4] (.nm 4) (xIt asL (xSl (xVar 0) (xPart (xC (.int 1))) xNoPart)) xYes (x2 kAdd (x2 kAdd (xSl (xVar 4) xNoPart (xPart (xVar 2))) (xLst (xCons (xC (.int 0)) xNil))) (xSl (xVar 4) (xPart (x2 kAdd (xVar 2) (xC (.int 1)))) xNoPart))))
    (sSet 1 (xCall kMax2 (xCons (xVar 1) (xCons (x2 kAdd (x2 kIx (x2 kIx (xVar 0) (xC (.int 0))) (xVar 2)) (xCall (m__law_shared d) (xCons (xVar 3) xNil))) xNil))))) sNx))
    (sRet (xVar 1))))))
theorem pu_m__law_shared : ∀ (d : Nat) (ds : List D), Pu (m__law_shared d ds)
  | 0 => fun _ => pu_bad
  | d + 1 => pu_runF (pus_seq (pus_if (pu_xT (pu_x2 pu_kEq pu_xVar (pu_xLst pu_xNil))) (pus_ret pu_xC) pus_nx) (pus_seq (pus_set (pu_xCall (pu_m__law_shared d) (pu_xCons (pu_xSl pu_xVar (pu_xPart pu_xC) pu_xNoPart) pu_xNil))) (pus_seq (pus_for (pu_xIt pu_kRg (pu_xCall pu_kLen (pu_xCons (pu_x2 pu_kIx pu_xVar pu_xC) pu_xNil))) (pus_if (pu_xT (pu_x2 pu_kGt (pu_x2 pu_kIx (pu_x2 pu_kIx pu_xVar pu_xC) pu_xVar) pu_xC)) (pus_seq (pus_set (pu_xLc (pu_xIt pu_asL (pu_xSl pu_xVar (pu_xPart pu_xC) pu_xNoPart)) pu_xYes (pu_x2 pu_kAdd (pu_x2 pu_kAdd (pu_xSl pu_xVar pu_xNoPart (pu_xPart pu_xVar)) (pu_xLst (pu_xCons pu_xC pu_xNil))) (pu_xSl pu_xVar (pu_xPart (pu_x2 pu_kAdd pu_xVar pu_xC)) pu_xNoPart)))) (pus_set (pu_xCall pu_kMax2 (pu_xCons pu_xVar (pu_xCons (pu_x2 pu_kAdd (pu_x2 pu_kIx (pu_x2 pu_kIx pu_xVar pu_xC) pu_xVar) (pu_xCall (pu_m__law_shared d) (pu_xCons pu_xVar pu_xNil))) pu_xNil))))) pus_nx)) (pus_ret pu_xVar))))
def m__law_choices : Nat → List D → M D
  | 0 => fun _ => M.bad
  | d + 1 => runF 6 ((sSeq (sIf (xT (x2 kEq (xVar 1) (xC (.int 0)))) (sRet (xLst (xCons (xTup xNil) xNil))) sNx)
    (sSeq (sSet 2 (xLst xNil))
    (sSeq (sFor (xIt asL (xCall (m__law_choices d) (xCons (xVar 0) (xCons (x2 kSub (xVar 1) (xC (.int 1))) xNil)))) (.nm 3) (sSeq (sSet 4 (xIf (xT (x2 kNe (xVar 3) (xTup xNil))) (x2 kAdd (x2 kIx (xVar 3) (x1 kNeg (xC (.int 1)))) (xC (.int 1))) (xC (.int 0))))
    (sSet 2 (x2 kAdd (xVar 2) (xLc [5] (.nm 5) (fun ρ => M.bind ((xCons (xVar 4) (xCons (xVar 0) xNil)) ρ) kRg2) xYes (x2 kAdd (xVar 3) (xTup (xCons (xVar 5) xNil))))))))
    (sRet (xVar 2))))))
theorem pu_m__law_choices : ∀ (d : Nat) (ds : List D), Pu (m__law_choices d ds)
  | 0 => fun _ => pu_bad
  | d + 1 => pu_runF (pus_seq (pus_if (pu_xT (pu_x2 pu_kEq pu_xVar pu_xC)) (pus_ret (pu_xLst (pu_xCons (pu_xTup pu_xNil) pu_xNil))) pus_nx) (pus_seq (pus_set (pu_xLst pu_xNil)) (pus_seq (pus_for (pu_xIt pu_asL (pu_xCall (pu_m__law_choices d) (pu_xCons pu_xVar (pu_xCons (pu_x2 pu_kSub pu_xVar pu_xC) pu_xNil)))) (pus_seq (pus_set (pu_xIf (pu_xT (pu_x2 pu_kNe pu_xVar (pu_xTup pu_xNil))) (pu_x2 pu_kAdd (pu_x2 pu_kIx pu_xVar (pu_x1 pu_kNeg pu_xC)) pu_xC) pu_xC)) (pus_set (pu_x2 pu_kAdd pu_xVar (pu_xLc (pu_xItL pu_kRg2 (pu_xCons pu_xVar (pu_xCons pu_xVar pu_xNil))) pu_xYes (pu_x2 pu_kAdd pu_xVar (pu_xTup (pu_xCons pu_xVar pu_xNil)))))))) (pus_ret pu_xVar))))
def f_meet : Sm := (sRet (xCall m_numbered (xCons (xCall kLstZip (xCons (xVar 0) (xCons (xVar 1) xNil))) xNil)))
def m_meet : List D → M D := runF 2 f_meet
theorem pu_m_meet : ∀ ds : List D, Pu (m_meet ds) := pu_runF (b := f_meet) (pus_ret (pu_xCall pu_m_numbered (pu_xCons (pu_xCall pu_kLstZip (pu_xCons pu_xVar (pu_xCons pu_xVar pu_xNil))) pu_xNil)))
def b_join_1 : Sm := (sIf (xOr (xT (x2 kEq (x2 kIx (xVar 0) (xVar 4)) (x2 kIx (xVar 0) (xVar 5)))) (xT (x2 kEq (x2 kIx (xVar 1) (xVar 4)) (x2 kIx (xVar 1) (xVar 5))))) (sSeq (sSet 6 (xCall kMin2 (xCons (x2 kIx (xPeek 2) (xVar 4)) (xCons (x2 kIx (xPeek 2) (xVar 5)) xNil)))) (sPut2 2 (xVar 4) (xVar 5) (xTup (xCons (xVar 6) (xCons (xVar 6) xNil))))) sNx)
def b_join_2 : Sm := (sFor (xIt kRg (xCall kLen (xCons (xVar 0) xNil))) (.nm 5) b_join_1)
def b_join_3 : Sm := (sFor (xIt kRg (xCall kLen (xCons (xVar 0) xNil))) (.nm 4) b_join_2)
def f_join : Sm := (sSeq (sOwn 2 (x1 kLstRg (xCall kLen (xCons (xVar 0) xNil)))) (sSeq (sFor (xIt kRg (xCall kLen (xCons (xVar 0) xNil))) (.nm 3) b_join_3) (sFrz 2 (sRet (xCall m_numbered (xCons (xVar 2) xNil))))))
def m_join : List D → M D := runF 7 f_join
theorem pu_m_join : ∀ ds : List D, Pu (m_join ds) := pu_runF (b := f_join) (pus_seq (pus_own (pu_x1 pu_kLstRg (pu_xCall pu_kLen (pu_xCons pu_xVar pu_xNil)))) (pus_seq (pus_for (pu_xIt pu_kRg (pu_xCall pu_kLen (pu_xCons pu_xVar pu_xNil))) (pus_for (pu_xIt pu_kRg (pu_xCall pu_kLen (pu_xCons pu_xVar pu_xNil))) (pus_for (pu_xIt pu_kRg (pu_xCall pu_kLen (pu_xCons pu_xVar pu_xNil))) (pus_if (pu_xOr (pu_xT (pu_x2 pu_kEq (pu_x2 pu_kIx pu_xVar pu_xVar) (pu_x2 pu_kIx pu_xVar pu_xVar))) (pu_xT (pu_x2 pu_kEq (pu_x2 pu_kIx pu_xVar pu_xVar) (pu_x2 pu_kIx pu_xVar pu_xVar)))) (pus_seq (pus_set (pu_xCall pu_kMin2 (pu_xCons (pu_x2 pu_kIx pu_xPeek pu_xVar) (pu_xCons (pu_x2 pu_kIx pu_xPeek pu_xVar) pu_xNil)))) (pus_put2 pu_xVar pu_xVar (pu_xTup (pu_xCons pu_xVar (pu_xCons pu_xVar pu_xNil))))) pus_nx)))) (pus_frz (pus_ret (pu_xCall pu_m_numbered (pu_xCons pu_xVar pu_xNil))))))
def f_coarsest_finer : Sm := (sSeq (sDrop (xCall m_check_both (xCons (xVar 0) (xCons (xVar 1) xNil)))) (sRet (xCall m_meet (xCons (xVar 0) (xCons (xVar 1) xNil)))))
def m_coarsest_finer : List D → M D := runF 2 f_coarsest_finer
theorem pu_m_coarsest_finer : ∀ ds : List D, Pu (m_coarsest_finer ds) := pu_runF (b := f_coarsest_finer) (pus_seq (pus_drop (pu_xCall pu_m_check_both (pu_xCons pu_xVar (pu_xCons pu_xVar pu_xNil)))) (pus_ret (pu_xCall pu_m_meet (pu_xCons pu_xVar (pu_xCons pu_xVar pu_xNil)))))
def f_finest_coarser : Sm := (sSeq (sDrop (xCall m_check_both (xCons (xVar 0) (xCons (xVar 1) xNil)))) (sRet (xCall m_join (xCons (xVar 0) (xCons (xVar 1) xNil)))))
def m_finest_coarser : List D → M D := runF 2 f_finest_coarser
theorem pu_m_finest_coarser : ∀ ds : List D, Pu (m_finest_coarser ds) := pu_runF (b := f_finest_coarser) (pus_seq (pus_drop (pu_xCall pu_m_check_both (pu_xCons pu_xVar (pu_xCons pu_xVar pu_xNil)))) (pus_ret (pu_xCall pu_m_join (pu_xCons pu_xVar (pu_xCons pu_xVar pu_xNil)))))
def f_steps : Sm := (sRet (x2 kSub (x2 kAdd (x2 kAdd (xCall kMax (xCons (xVar 0) xNil)) (xCall kMax (xCons (xVar 1) xNil))) (xC (.int 2))) (x2 kMul (xC (.int 2)) (x2 kAdd (xCall kMax (xCons (xCall m_join (xCons (xVar 0) (xCons (xVar 1) xNil))) xNil)) (xC (.int 1))))))
def m_steps : List D → M D := runF 2 f_steps
theorem pu_m_steps : ∀ ds : List D, Pu (m_steps ds) := pu_runF (b := f_steps) (pus_ret (pu_x2 pu_kSub (pu_x2 pu_kAdd (pu_x2 pu_kAdd (pu_xCall pu_kMax (pu_xCons pu_xVar pu_xNil)) (pu_xCall pu_kMax (pu_xCons pu_xVar pu_xNil))) pu_xC) (pu_x2 pu_kMul pu_xC (pu_x2 pu_kAdd (pu_xCall pu_kMax (pu_xCons (pu_xCall pu_m_join (pu_xCons pu_xVar (pu_xCons pu_xVar pu_xNil))) pu_xNil)) pu_xC))))
def f_count_steps : Sm := (sSeq (sDrop (xCall m_check_both (xCons (xVar 0) (xCons (xVar 1) xNil)))) (sRet (xCall m_steps (xCons (xVar 0) (xCons (xVar 1) xNil)))))
def m_count_steps : List D → M D := runF 2 f_count_steps
theorem pu_m_count_steps : ∀ ds : List D, Pu (m_count_steps ds) := pu_runF (b := f_count_steps) (pus_seq (pus_drop (pu_xCall pu_m_check_both (pu_xCons pu_xVar (pu_xCons pu_xVar pu_xNil)))) (pus_ret (pu_xCall pu_m_steps (pu_xCons pu_xVar (pu_xCons pu_xVar pu_xNil)))))
def b_joinings_1 : Sm := (sApp 1 (xCall m_numbered (xCons (xLc [4] (.nm 4) (xIt asL (xVar 0)) xYes (xIf (xT (x2 kEq (xVar 4) (xVar 3))) (xVar 2) (xVar 4))) xNil)))
def b_joinings_2 : Sm := (sFor (fun ρ => M.bind ((xCons (x2 kAdd (xVar 2) (xC (.int 1))) (xCons (x2 kAdd (xCall kMax (xCons (xVar 0) xNil)) (xC (.int 1))) xNil)) ρ) kRg2) (.nm 3) b_joinings_1)
def f_joinings : Sm := (sSeq (sOwn 1 (xLst xNil)) (sSeq (sFor (xIt kRg (x2 kAdd (xCall kMax (xCons (xVar 0) xNil)) (xC (.int 1)))) (.nm 2) b_joinings_2) (sRet (xCall kSortR (xCons (xPeek 1) xNil)))))
def m_joinings : List D → M D := runF 5 f_joinings
theorem pu_m_joinings : ∀ ds : List D, Pu (m_joinings ds) := pu_runF (b := f_joinings) (pus_seq (pus_own (pu_xLst pu_xNil)) (pus_seq (pus_for (pu_xIt pu_kRg (pu_x2 pu_kAdd (pu_xCall pu_kMax (pu_xCons pu_xVar pu_xNil)) pu_xC)) (pus_for (pu_xItL pu_kRg2 (pu_xCons (pu_x2 pu_kAdd pu_xVar pu_xC) (pu_xCons (pu_x2 pu_kAdd (pu_xCall pu_kMax (pu_xCons pu_xVar pu_xNil)) pu_xC) pu_xNil))) (pus_app (pu_xCall pu_m_numbered (pu_xCons (pu_xLc (pu_xIt pu_asL pu_xVar) pu_xYes (pu_xIf (pu_xT (pu_x2 pu_kEq pu_xVar pu_xVar)) pu_xVar pu_xVar)) pu_xNil))))) (pus_ret (pu_xCall pu_kSortR (pu_xCons pu_xPeek pu_xNil)))))
def f_all_joinings : Sm := (sSeq (sDrop (xCall m_check_grouping (xCons (xVar 0) xNil))) (sRet (xCall m_joinings (xCons (xVar 0) xNil))))
def m_all_joinings : List D → M D := runF 1 f_all_joinings
theorem pu_m_all_joinings : ∀ ds : List D, Pu (m_all_joinings ds) := pu_runF (b := f_all_joinings) (pus_seq (pus_drop (pu_xCall pu_m_check_grouping (pu_xCons pu_xVar pu_xNil))) (pus_ret (pu_xCall pu_m_joinings (pu_xCons pu_xVar pu_xNil))))
def b_divisions_1 : Sm := (sExt 3 (xLc [5] (.nm 5) (xIt asL (xPeek 3)) xYes (x2 kAdd (xVar 5) (xLst (xCons (xVar 4) xNil)))))
def b_divisions_2 : Sm := (sApp 1 (xCall m_numbered (xCons (xLc [6] (.nm 6) (xIt kRg (xCall kLen (xCons (xVar 0) xNil))) xYes (xIf (xT (x2 kIn (xVar 6) (xVar 5))) (xCall kLen (xCons (xVar 0) xNil)) (x2 kIx (xVar 0) (xVar 6)))) xNil)))
def b_divisions_3 : Sm := (sSeq (sOwn 3 (xLst (xCons (xLst xNil) xNil))) (sSeq (sFor (xIt asL (xSl (xVar 2) (xPart (xC (.int 1))) xNoPart)) (.nm 4) b_divisions_1) (sFor (xIt asL (xSl (xPeek 3) (xPart (xC (.int 1))) xNoPart)) (.nm 5) b_divisions_2)))
def f_divisions : Sm := (sSeq (sOwn 1 (xLst xNil)) (sSeq (sFor (xIt asL (xCall m_groups_of (xCons (xVar 0) xNil))) (.nm 2) b_divisions_3) (sRet (xCall kSortR (xCons (xPeek 1) xNil)))))
def m_divisions : List D → M D := runF 7 f_divisions
theorem pu_m_divisions : ∀ ds : List D, Pu (m_divisions ds) := pu_runF (b := f_divisions) (pus_seq (pus_own (pu_xLst pu_xNil)) (pus_seq (pus_for (pu_xIt pu_asL (pu_xCall pu_m_groups_of (pu_xCons pu_xVar pu_xNil))) (pus_seq (pus_own (pu_xLst (pu_xCons (pu_xLst pu_xNil) pu_xNil))) (pus_seq (pus_for (pu_xIt pu_asL (pu_xSl pu_xVar (pu_xPart pu_xC) pu_xNoPart)) (pus_ext (pu_xLc (pu_xIt pu_asL pu_xPeek) pu_xYes (pu_x2 pu_kAdd pu_xVar (pu_xLst (pu_xCons pu_xVar pu_xNil)))))) (pus_for (pu_xIt pu_asL (pu_xSl pu_xPeek (pu_xPart pu_xC) pu_xNoPart)) (pus_app (pu_xCall pu_m_numbered (pu_xCons (pu_xLc (pu_xIt pu_kRg (pu_xCall pu_kLen (pu_xCons pu_xVar pu_xNil))) pu_xYes (pu_xIf (pu_xT (pu_x2 pu_kIn pu_xVar pu_xVar)) (pu_xCall pu_kLen (pu_xCons pu_xVar pu_xNil)) (pu_x2 pu_kIx pu_xVar pu_xVar))) pu_xNil))))))) (pus_ret (pu_xCall pu_kSortR (pu_xCons pu_xPeek pu_xNil)))))
def f_all_divisions : Sm := (sSeq (sDrop (xCall m_check_grouping (xCons (xVar 0) xNil))) (sRet (xCall m_divisions (xCons (xVar 0) xNil))))
def m_all_divisions : List D → M D := runF 1 f_all_divisions
theorem pu_m_all_divisions : ∀ ds : List D, Pu (m_all_divisions ds) := pu_runF (b := f_all_divisions) (pus_seq (pus_drop (pu_xCall pu_m_check_grouping (pu_xCons pu_xVar pu_xNil))) (pus_ret (pu_xCall pu_m_divisions (pu_xCons pu_xVar pu_xNil))))
def b_way_1 : Sm := (sApp 3 (x2 kIx (xLc [5] (.nm 5) (xIt asL (xCall m_joinings (xCons (x2 kIx (xPeek 3) (x1 kNeg (xC (.int 1)))) xNil))) (xT (x2 kEq (xCall m_numbered (xCons (xCall kLstZip (xCons (xVar 5) (xCons (xVar 2) xNil))) xNil)) (xVar 5))) (xVar 5)) (xC (.int 0))))
def b_way_2 : Sm := (sApp 4 (x2 kIx (xLc [5] (.nm 5) (xIt asL (xCall m_joinings (xCons (x2 kIx (xPeek 4) (x1 kNeg (xC (.int 1)))) xNil))) (xT (x2 kEq (xCall m_numbered (xCons (xCall kLstZip (xCons (xVar 5) (xCons (xVar 2) xNil))) xNil)) (xVar 5))) (xVar 5)) (xC (.int 0))))
def f_way : Sm := (sSeq (sDrop (xCall m_check_both (xCons (xVar 0) (xCons (xVar 1) xNil)))) (sSeq (sSet 2 (xCall m_join (xCons (xVar 0) (xCons (xVar 1) xNil)))) (sSeq (sOwn 3 (xLst (xCons (xCall kList (xCons (xVar 0) xNil)) xNil))) (sSeq (sWhile (xT (x2 kNe (x2 kIx (xPeek 3) (x1 kNeg (xC (.int 1)))) (xVar 2))) b_way_1) (sSeq (sOwn 4 (xLst (xCons (xCall kList (xCons (xVar 1) xNil)) xNil))) (sSeq (sWhile (xT (x2 kNe (x2 kIx (xPeek 4) (x1 kNeg (xC (.int 1)))) (xVar 2))) b_way_2) (sRet (x2 kAdd (xPeek 3) (xSl (x1 kRev (xPeek 4)) (xPart (xC (.int 1))) xNoPart)))))))))
def m_way : List D → M D := runF 6 f_way
theorem pu_m_way : ∀ ds : List D, Pu (m_way ds) := pu_runF (b := f_way) (pus_seq (pus_drop (pu_xCall pu_m_check_both (pu_xCons pu_xVar (pu_xCons pu_xVar pu_xNil)))) (pus_seq (pus_set (pu_xCall pu_m_join (pu_xCons pu_xVar (pu_xCons pu_xVar pu_xNil)))) (pus_seq (pus_own (pu_xLst (pu_xCons (pu_xCall pu_kList (pu_xCons pu_xVar pu_xNil)) pu_xNil))) (pus_seq (pus_while (pu_xT (pu_x2 pu_kNe (pu_x2 pu_kIx pu_xPeek (pu_x1 pu_kNeg pu_xC)) pu_xVar)) (pus_app (pu_x2 pu_kIx (pu_xLc (pu_xIt pu_asL (pu_xCall pu_m_joinings (pu_xCons (pu_x2 pu_kIx pu_xPeek (pu_x1 pu_kNeg pu_xC)) pu_xNil))) (pu_xT (pu_x2 pu_kEq (pu_xCall pu_m_numbered (pu_xCons (pu_xCall pu_kLstZip (pu_xCons pu_xVar (pu_xCons pu_xVar pu_xNil))) pu_xNil)) pu_xVar)) pu_xVar) pu_xC))) (pus_seq (pus_own (pu_xLst (pu_xCons (pu_xCall pu_kList (pu_xCons pu_xVar pu_xNil)) pu_xNil))) (pus_seq (pus_while (pu_xT (pu_x2 pu_kNe (pu_x2 pu_kIx pu_xPeek (pu_x1 pu_kNeg pu_xC)) pu_xVar)) (pus_app (pu_x2 pu_kIx (pu_xLc (pu_xIt pu_asL (pu_xCall pu_m_joinings (pu_xCons (pu_x2 pu_kIx pu_xPeek (pu_x1 pu_kNeg pu_xC)) pu_xNil))) (pu_xT (pu_x2 pu_kEq (pu_xCall pu_m_numbered (pu_xCons (pu_xCall pu_kLstZip (pu_xCons pu_xVar (pu_xCons pu_xVar pu_xNil))) pu_xNil)) pu_xVar)) pu_xVar) pu_xC))) (pus_ret (pu_x2 pu_kAdd pu_xPeek (pu_xSl (pu_x1 pu_kRev pu_xPeek) (pu_xPart pu_xC) pu_xNoPart)))))))))
def f_joined_groups : Sm := (sSeq (sDrop (xCall m_check_grouping (xCons (xVar 0) xNil))) (sSeq (sIf (xOr (xNot (xT (xCall m_is_int (xCons (xVar 1) (xCons (xC (.int 0)) (xCons (xCall kMax (xCons (xVar 0) xNil)) xNil)))))) (xOr (xNot (xT (xCall m_is_int (xCons (xVar 2) (xCons (xC (.int 0)) (xCons (xCall kMax (xCons (xVar 0) xNil)) xNil)))))) (xT (x2 kEq (xVar 1) (xVar 2))))) (sErr "BadNumber") sNx) (sRet (xCall m_numbered (xCons (xLc [3] (.nm 3) (xIt asL (xVar 0)) xYes (xIf (xT (x2 kEq (xVar 3) (xVar 2))) (xVar 1) (xVar 3))) xNil)))))
def m_joined_groups : List D → M D := runF 4 f_joined_groups
theorem pu_m_joined_groups : ∀ ds : List D, Pu (m_joined_groups ds) := pu_runF (b := f_joined_groups) (pus_seq (pus_drop (pu_xCall pu_m_check_grouping (pu_xCons pu_xVar pu_xNil))) (pus_seq (pus_if (pu_xOr (pu_xNot (pu_xT (pu_xCall pu_m_is_int (pu_xCons pu_xVar (pu_xCons pu_xC (pu_xCons (pu_xCall pu_kMax (pu_xCons pu_xVar pu_xNil)) pu_xNil)))))) (pu_xOr (pu_xNot (pu_xT (pu_xCall pu_m_is_int (pu_xCons pu_xVar (pu_xCons pu_xC (pu_xCons (pu_xCall pu_kMax (pu_xCons pu_xVar pu_xNil)) pu_xNil)))))) (pu_xT (pu_x2 pu_kEq pu_xVar pu_xVar)))) pus_err pus_nx) (pus_ret (pu_xCall pu_m_numbered (pu_xCons (pu_xLc (pu_xIt pu_asL pu_xVar) pu_xYes (pu_xIf (pu_xT (pu_x2 pu_kEq pu_xVar pu_xVar)) pu_xVar pu_xVar)) pu_xNil)))))
def b__law_all_1 : Sm := (sSet 3 (x2 kAdd (xVar 3) (xLc [5] (.nm 5) (xIt kRg (x2 kAdd (xCall kMax (xCons (xVar 4) xNil)) (xC (.int 2)))) xYes (x2 kAdd (xVar 4) (xLst (xCons (xVar 5) xNil))))))
def b__law_all_2 : Sm := (sSeq (sSet 3 (xLst xNil)) (sSeq (sFor (xIt asL (xVar 1)) (.nm 4) b__law_all_1) (sSet 1 (xVar 3))))
def f__law_all : Sm := (sSeq (sSet 1 (xLst (xCons (xLst (xCons (xC (.int 0)) xNil)) xNil))) (sSeq (sFor (xIt kRg (x2 kSub (xVar 0) (xC (.int 1)))) (.nm 2) b__law_all_2) (sRet (xVar 1))))
def m__law_all : List D → M D := runF 6 f__law_all
theorem pu_m__law_all : ∀ ds : List D, Pu (m__law_all ds) := pu_runF (b := f__law_all) (pus_seq (pus_set (pu_xLst (pu_xCons (pu_xLst (pu_xCons pu_xC pu_xNil)) pu_xNil))) (pus_seq (pus_for (pu_xIt pu_kRg (pu_x2 pu_kSub pu_xVar pu_xC)) (pus_seq (pus_set (pu_xLst pu_xNil)) (pus_seq (pus_for (pu_xIt pu_asL pu_xVar) (pus_set (pu_x2 pu_kAdd pu_xVar (pu_xLc (pu_xIt pu_kRg (pu_x2 pu_kAdd (pu_xCall pu_kMax (pu_xCons pu_xVar pu_xNil)) pu_xC)) pu_xYes (pu_x2 pu_kAdd pu_xVar (pu_xLst (pu_xCons pu_xVar pu_xNil))))))) (pus_set pu_xVar)))) (pus_ret pu_xVar)))
def b__law_join_1 : Sm := (sIf (xOr (xT (x2 kEq (x2 kIx (xVar 0) (xVar 3)) (x2 kIx (xVar 0) (xVar 4)))) (xT (x2 kEq (x2 kIx (xVar 1) (xVar 3)) (x2 kIx (xVar 1) (xVar 4))))) (sSeq (sTgt (.tp [5, 6]) (xTup (xCons (x2 kIx (xVar 2) (xVar 3)) (xCons (x2 kIx (xVar 2) (xVar 4)) xNil)))) (sSet 2 (xLc [7] (.nm 7) (xIt asL (xVar 2)) xYes (xIf (xT (x2 kEq (xVar 7) (xVar 6))) (xVar 5) (xVar 7))))) sNx)
def f__law_join : Sm := (sSeq (sSet 2 (x1 kLstRg (xCall kLen (xCons (xVar 0) xNil)))) (sSeq (sFor (xIt asL (xCall m__law_pairs (xCons (xCall kLen (xCons (xVar 0) xNil)) xNil))) (.tp [3, 4]) b__law_join_1) (sRet (xCall m__law_numbered (xCons (xVar 2) xNil)))))
def m__law_join : List D → M D := runF 8 f__law_join
theorem pu_m__law_join : ∀ ds : List D, Pu (m__law_join ds) := pu_runF (b := f__law_join) (pus_seq (pus_set (pu_x1 pu_kLstRg (pu_xCall pu_kLen (pu_xCons pu_xVar pu_xNil)))) (pus_seq (pus_for (pu_xIt pu_asL (pu_xCall pu_m__law_pairs (pu_xCons (pu_xCall pu_kLen (pu_xCons pu_xVar pu_xNil)) pu_xNil))) (pus_if (pu_xOr (pu_xT (pu_x2 pu_kEq (pu_x2 pu_kIx pu_xVar pu_xVar) (pu_x2 pu_kIx pu_xVar pu_xVar))) (pu_xT (pu_x2 pu_kEq (pu_x2 pu_kIx pu_xVar pu_xVar) (pu_x2 pu_kIx pu_xVar pu_xVar)))) (pus_seq (pus_tgt (pu_xTup (pu_xCons (pu_x2 pu_kIx pu_xVar pu_xVar) (pu_xCons (pu_x2 pu_kIx pu_xVar pu_xVar) pu_xNil)))) (pus_set (pu_xLc (pu_xIt pu_asL pu_xVar) pu_xYes (pu_xIf (pu_xT (pu_x2 pu_kEq pu_xVar pu_xVar)) pu_xVar pu_xVar)))) pus_nx)) (pus_ret (pu_xCall pu_m__law_numbered (pu_xCons pu_xVar pu_xNil)))))
def f__law_finer : Sm := (sRet (x2 kEq (xLc [2, 3] (.tp [2, 3]) (xIt asL (xCall m__law_pairs (xCons (xCall kLen (xCons (xVar 0) xNil)) xNil))) (xAnd (xT (x2 kEq (x2 kIx (xVar 0) (xVar 2)) (x2 kIx (xVar 0) (xVar 3)))) (xT (x2 kNe (x2 kIx (xVar 1) (xVar 2)) (x2 kIx (xVar 1) (xVar 3))))) (xTup (xCons (xVar 2) (xCons (xVar 3) xNil)))) (xLst xNil)))
def m__law_finer : List D → M D := runF 4 f__law_finer
theorem pu_m__law_finer : ∀ ds : List D, Pu (m__law_finer ds) := pu_runF (b := f__law_finer) (pus_ret (pu_x2 pu_kEq (pu_xLc (pu_xIt pu_asL (pu_xCall pu_m__law_pairs (pu_xCons (pu_xCall pu_kLen (pu_xCons pu_xVar pu_xNil)) pu_xNil))) (pu_xAnd (pu_xT (pu_x2 pu_kEq (pu_x2 pu_kIx pu_xVar pu_xVar) (pu_x2 pu_kIx pu_xVar pu_xVar))) (pu_xT (pu_x2 pu_kNe (pu_x2 pu_kIx pu_xVar pu_xVar) (pu_x2 pu_kIx pu_xVar pu_xVar)))) (pu_xTup (pu_xCons pu_xVar (pu_xCons pu_xVar pu_xNil)))) (pu_xLst pu_xNil)))
def f__law_step : Sm := (sSeq (sTgt (.tp [2, 3]) (xIf (xT (x2 kGt (xCall kMax (xCons (xVar 0) xNil)) (xCall kMax (xCons (xVar 1) xNil)))) (xTup (xCons (xVar 0) (xCons (xVar 1) xNil))) (xTup (xCons (xVar 1) (xCons (xVar 0) xNil))))) (sRet (xAndV (x2 kEq (xCall kMax (xCons (xVar 2) xNil)) (x2 kAdd (xCall kMax (xCons (xVar 3) xNil)) (xC (.int 1)))) (xCall m__law_finer (xCons (xVar 2) (xCons (xVar 3) xNil))))))
def m__law_step : List D → M D := runF 4 f__law_step
theorem pu_m__law_step : ∀ ds : List D, Pu (m__law_step ds) := pu_runF (b := f__law_step) (pus_seq (pus_tgt (pu_xIf (pu_xT (pu_x2 pu_kGt (pu_xCall pu_kMax (pu_xCons pu_xVar pu_xNil)) (pu_xCall pu_kMax (pu_xCons pu_xVar pu_xNil)))) (pu_xTup (pu_xCons pu_xVar (pu_xCons pu_xVar pu_xNil))) (pu_xTup (pu_xCons pu_xVar (pu_xCons pu_xVar pu_xNil))))) (pus_ret (pu_xAndV (pu_x2 pu_kEq (pu_xCall pu_kMax (pu_xCons pu_xVar pu_xNil)) (pu_x2 pu_kAdd (pu_xCall pu_kMax (pu_xCons pu_xVar pu_xNil)) pu_xC)) (pu_xCall pu_m__law_finer (pu_xCons pu_xVar (pu_xCons pu_xVar pu_xNil))))))
def b_rows_of_1 : Sm := (sExt 3 (xLc [5] (.nm 5) (xIt kRg (x2 kAdd (xCall kMax (xCons (xVar 4) xNil)) (xC (.int 2)))) xYes (x2 kAdd (xVar 4) (xLst (xCons (xVar 5) xNil)))))
def b_rows_of_2 : Sm := (sSeq (sOwn 3 (xLst xNil)) (sSeq (sFor (xIt asL (xVar 1)) (.nm 4) b_rows_of_1) (sFrz 3 (sSet 1 (xVar 3)))))
def f_rows_of : Sm := (sSeq (sSet 1 (xLst (xCons (xLst (xCons (xC (.int 0)) xNil)) xNil))) (sSeq (sFor (fun ρ => M.bind ((xCons (xC (.int 1)) (xCons (xVar 0) xNil)) ρ) kRg2) (.nm 2) b_rows_of_2) (sRet (xVar 1))))
def m_rows_of : List D → M D := runF 6 f_rows_of
theorem pu_m_rows_of : ∀ ds : List D, Pu (m_rows_of ds) := pu_runF (b := f_rows_of) (pus_seq (pus_set (pu_xLst (pu_xCons (pu_xLst (pu_xCons pu_xC pu_xNil)) pu_xNil))) (pus_seq (pus_for (pu_xItL pu_kRg2 (pu_xCons pu_xC (pu_xCons pu_xVar pu_xNil))) (pus_seq (pus_own (pu_xLst pu_xNil)) (pus_seq (pus_for (pu_xIt pu_asL pu_xVar) (pus_ext (pu_xLc (pu_xIt pu_kRg (pu_x2 pu_kAdd (pu_xCall pu_kMax (pu_xCons pu_xVar pu_xNil)) pu_xC)) pu_xYes (pu_x2 pu_kAdd pu_xVar (pu_xLst (pu_xCons pu_xVar pu_xNil)))))) (pus_frz (pus_set pu_xVar))))) (pus_ret pu_xVar)))
def b_lies_between_1 : Sm := (sSeq (sPar 5 6 (xCons (x2 kEq (x2 kIx (xVar 0) (xVar 3)) (x2 kIx (xVar 0) (xVar 4))) (xCons (x2 kEq (x2 kIx (xVar 2) (xVar 3)) (x2 kIx (xVar 2) (xVar 4))) xNil))) (sIf (xAnd (xT (x2 kEq (xVar 5) (xVar 6))) (xT (x2 kNe (x2 kEq (x2 kIx (xVar 1) (xVar 3)) (x2 kIx (xVar 1) (xVar 4))) (xVar 5)))) (sRet (xC (.bool false))) sNx))
def f_lies_between : Sm := (sSeq (sFor (xIt asL (xCall m_all_pairs (xCons (xCall kLen (xCons (xVar 0) xNil)) xNil))) (.tp [3, 4]) b_lies_between_1) (sRet (xC (.bool true))))
def m_lies_between : List D → M D := runF 7 f_lies_between
theorem pu_m_lies_between : ∀ ds : List D, Pu (m_lies_between ds) := pu_runF (b := f_lies_between) (pus_seq (pus_for (pu_xIt pu_asL (pu_xCall pu_m_all_pairs (pu_xCons (pu_xCall pu_kLen (pu_xCons pu_xVar pu_xNil)) pu_xNil))) (pus_seq (pus_par (pu_xCons (pu_x2 pu_kEq (pu_x2 pu_kIx pu_xVar pu_xVar) (pu_x2 pu_kIx pu_xVar pu_xVar)) (pu_xCons (pu_x2 pu_kEq (pu_x2 pu_kIx pu_xVar pu_xVar) (pu_x2 pu_kIx pu_xVar pu_xVar)) pu_xNil))) (pus_if (pu_xAnd (pu_xT (pu_x2 pu_kEq pu_xVar pu_xVar)) (pu_xT (pu_x2 pu_kNe (pu_x2 pu_kEq (pu_x2 pu_kIx pu_xVar pu_xVar) (pu_x2 pu_kIx pu_xVar pu_xVar)) pu_xVar))) (pus_ret pu_xC) pus_nx))) (pus_ret pu_xC))
def f_is_between : Sm := (sSeq (sDrop (xCall m_check_both (xCons (xVar 0) (xCons (xVar 1) xNil)))) (sSeq (sDrop (xCall m_check_both (xCons (xVar 0) (xCons (xVar 2) xNil)))) (sRet (xCall m_lies_between (xCons (xVar 0) (xCons (xVar 1) (xCons (xVar 2) xNil)))))))
def m_is_between : List D → M D := runF 3 f_is_between
theorem pu_m_is_between : ∀ ds : List D, Pu (m_is_between ds) := pu_runF (b := f_is_between) (pus_seq (pus_drop (pu_xCall pu_m_check_both (pu_xCons pu_xVar (pu_xCons pu_xVar pu_xNil)))) (pus_seq (pus_drop (pu_xCall pu_m_check_both (pu_xCons pu_xVar (pu_xCons pu_xVar pu_xNil)))) (pus_ret (pu_xCall pu_m_lies_between (pu_xCons pu_xVar (pu_xCons pu_xVar (pu_xCons pu_xVar pu_xNil)))))))
def f_between : Sm := (sSeq (sDrop (xCall m_check_both (xCons (xVar 0) (xCons (xVar 1) xNil)))) (sRet (xLc [2] (.nm 2) (xIt asL (xCall m_rows_of (xCons (xCall kLen (xCons (xVar 0) xNil)) xNil))) (xT (xCall m_lies_between (xCons (xVar 0) (xCons (xVar 2) (xCons (xVar 1) xNil))))) (xVar 2))))
def m_between : List D → M D := runF 3 f_between
theorem pu_m_between : ∀ ds : List D, Pu (m_between ds) := pu_runF (b := f_between) (pus_seq (pus_drop (pu_xCall pu_m_check_both (pu_xCons pu_xVar (pu_xCons pu_xVar pu_xNil)))) (pus_ret (pu_xLc (pu_xIt pu_asL (pu_xCall pu_m_rows_of (pu_xCons (pu_xCall pu_kLen (pu_xCons pu_xVar pu_xNil)) pu_xNil))) (pu_xT (pu_xCall pu_m_lies_between (pu_xCons pu_xVar (pu_xCons pu_xVar (pu_xCons pu_xVar pu_xNil))))) pu_xVar)))
def f_near : Sm := (sSeq (sDrop (xCall m_check_grouping (xCons (xVar 0) xNil))) (sSeq (sIf (xNot (xT (xCall m_is_int (xCons (xVar 1) (xCons (xC (.int 0)) (xCons (xC (.int 21)) xNil)))))) (sErr "BadNumber") sNx) (sRet (xLc [2] (.nm 2) (xIt asL (xCall m_rows_of (xCons (xCall kLen (xCons (xVar 0) xNil)) xNil))) (xT (x2 kLe (xCall m_distance (xCons (xVar 0) (xCons (xVar 2) xNil))) (xVar 1))) (xVar 2)))))
def m_near : List D → M D := runF 3 f_near
theorem pu_m_near : ∀ ds : List D, Pu (m_near ds) := pu_runF (b := f_near) (pus_seq (pus_drop (pu_xCall pu_m_check_grouping (pu_xCons pu_xVar pu_xNil))) (pus_seq (pus_if (pu_xNot (pu_xT (pu_xCall pu_m_is_int (pu_xCons pu_xVar (pu_xCons pu_xC (pu_xCons pu_xC pu_xNil)))))) pus_err pus_nx) (pus_ret (pu_xLc (pu_xIt pu_asL (pu_xCall pu_m_rows_of (pu_xCons (pu_xCall pu_kLen (pu_xCons pu_xVar pu_xNil)) pu_xNil))) (pu_xT (pu_x2 pu_kLe (pu_xCall pu_m_distance (pu_xCons pu_xVar (pu_xCons pu_xVar pu_xNil))) pu_xVar)) pu_xVar))))
def f_nearest_with : Sm := (sSeq (sDrop (xCall m_check_grouping (xCons (xVar 0) xNil))) (sSeq (sIf (xNot (xT (xCall m_is_int (xCons (xVar 1) (xCons (xC (.int 1)) (xCons (xCall kLen (xCons (xVar 0) xNil)) xNil)))))) (sErr "BadNumber") sNx) (sSeq (sSet 2 (xLc [4] (.nm 4) (xIt asL (xCall m_rows_of (xCons (xCall kLen (xCons (xVar 0) xNil)) xNil))) (xT (x2 kEq (x2 kAdd (xCall kMax (xCons (xVar 4) xNil)) (xC (.int 1))) (xVar 1))) (xVar 4))) (sSeq (sSet 3 (xCall kMin (xCons (xLc [4] (.nm 4) (xIt asL (xVar 2)) xYes (xCall m_distance (xCons (xVar 0) (xCons (xVar 4) xNil)))) xNil))) (sRet (xLc [4] (.nm 4) (xIt asL (xVar 2)) (xT (x2 kEq (xCall m_distance (xCons (xVar 0) (xCons (xVar 4) xNil))) (xVar 3))) (xVar 4)))))))
def m_nearest_with : List D → M D := runF 5 f_nearest_with
theorem pu_m_nearest_with : ∀ ds : List D, Pu (m_nearest_with ds) := pu_runF (b := f_nearest_with) (pus_seq (pus_drop (pu_xCall pu_m_check_grouping (pu_xCons pu_xVar pu_xNil))) (pus_seq (pus_if (pu_xNot (pu_xT (pu_xCall pu_m_is_int (pu_xCons pu_xVar (pu_xCons pu_xC (pu_xCons (pu_xCall pu_kLen (pu_xCons pu_xVar pu_xNil)) pu_xNil)))))) pus_err pus_nx) (pus_seq (pus_set (pu_xLc (pu_xIt pu_asL (pu_xCall pu_m_rows_of (pu_xCons (pu_xCall pu_kLen (pu_xCons pu_xVar pu_xNil)) pu_xNil))) (pu_xT (pu_x2 pu_kEq (pu_x2 pu_kAdd (pu_xCall pu_kMax (pu_xCons pu_xVar pu_xNil)) pu_xC) pu_xVar)) pu_xVar)) (pus_seq (pus_set (pu_xCall pu_kMin (pu_xCons (pu_xLc (pu_xIt pu_asL pu_xVar) pu_xYes (pu_xCall pu_m_distance (pu_xCons pu_xVar (pu_xCons pu_xVar pu_xNil)))) pu_xNil))) (pus_ret (pu_xLc (pu_xIt pu_asL pu_xVar) (pu_xT (pu_x2 pu_kEq (pu_xCall pu_m_distance (pu_xCons pu_xVar (pu_xCons pu_xVar pu_xNil))) pu_xVar)) pu_xVar))))))
def b_middle_groupings_1 : Sm := (sDrop (xCall m_check_both (xCons (x2 kIx (xVar 0) (xC (.int 0))) (xCons (xVar 1) xNil))))
def f_middle_groupings : Sm := (sSeq (sIf (xOr (xNot (xT (x1 (kIsi "list") (xVar 0)))) (xNot (xT (x3 kLe kLe (xC (.int 1)) (xCall kLen (xCons (xVar 0) xNil)) (xC (.int 5)))))) (sErr "BadNumber") sNx) (sSeq (sFor (xIt asL (xVar 0)) (.nm 1) b_middle_groupings_1) (sSeq (sSet 2 (xCall m_rows_of (xCons (xCall kLen (xCons (x2 kIx (xVar 0) (xC (.int 0))) xNil)) xNil))) (sSeq (sSet 3 (xLc [1] (.nm 1) (xIt asL (xVar 2)) xYes (xCall kSum (xCons (xLc [4] (.nm 4) (xIt asL (xVar 0)) xYes (xCall m_distance (xCons (xVar 1) (xCons (xVar 4) xNil)))) xNil)))) (sRet (xLc [1, 5] (.tp [1, 5]) (fun ρ => M.bind ((xCons (xVar 2) (xCons (xVar 3) xNil)) ρ) kZip) (xT (x2 kEq (xVar 5) (xCall kMin (xCons (xVar 3) xNil)))) (xVar 1)))))))
def m_middle_groupings : List D → M D := runF 6 f_middle_groupings
theorem pu_m_middle_groupings : ∀ ds : List D, Pu (m_middle_groupings ds) := pu_runF (b := f_middle_groupings) (pus_seq (pus_if (pu_xOr (pu_xNot (pu_xT (pu_x1 (pu_kIsi "list") pu_xVar))) (pu_xNot (pu_xT (pu_x3 pu_kLe pu_kLe pu_xC (pu_xCall pu_kLen (pu_xCons pu_xVar pu_xNil)) pu_xC)))) pus_err pus_nx) (pus_seq (pus_for (pu_xIt pu_asL pu_xVar) (pus_drop (pu_xCall pu_m_check_both (pu_xCons (pu_x2 pu_kIx pu_xVar pu_xC) (pu_xCons pu_xVar pu_xNil))))) (pus_seq (pus_set (pu_xCall pu_m_rows_of (pu_xCons (pu_xCall pu_kLen (pu_xCons (pu_x2 pu_kIx pu_xVar pu_xC) pu_xNil)) pu_xNil))) (pus_seq (pus_set (pu_xLc (pu_xIt pu_asL pu_xVar) pu_xYes (pu_xCall pu_kSum (pu_xCons (pu_xLc (pu_xIt pu_asL pu_xVar) pu_xYes (pu_xCall pu_m_distance (pu_xCons pu_xVar (pu_xCons pu_xVar pu_xNil)))) pu_xNil)))) (pus_ret (pu_xLc (pu_xItL pu_kZip (pu_xCons pu_xVar (pu_xCons pu_xVar pu_xNil))) (pu_xT (pu_x2 pu_kEq pu_xVar (pu_xCall pu_kMin (pu_xCons pu_xVar pu_xNil)))) pu_xVar))))))
def f_check_size : Sm := (sIf (xNot (xT (xCall m_is_int (xCons (xVar 0) (xCons (xC (.int 1)) (xCons (xC (.int 7)) xNil)))))) (sErr "BadNumber") sNx)
def m_check_size : List D → M D := runF 1 f_check_size
theorem pu_m_check_size : ∀ ds : List D, Pu (m_check_size ds) := pu_runF (b := f_check_size) (pus_if (pu_xNot (pu_xT (pu_xCall pu_m_is_int (pu_xCons pu_xVar (pu_xCons pu_xC (pu_xCons pu_xC pu_xNil)))))) pus_err pus_nx)
def f_all_groupings : Sm := (sSeq (sDrop (xCall m_check_size (xCons (xVar 0) xNil))) (sRet (xCall m_rows_of (xCons (xVar 0) xNil))))
def m_all_groupings : List D → M D := runF 1 f_all_groupings
theorem pu_m_all_groupings : ∀ ds : List D, Pu (m_all_groupings ds) := pu_runF (b := f_all_groupings) (pus_seq (pus_drop (pu_xCall pu_m_check_size (pu_xCons pu_xVar pu_xNil))) (pus_ret (pu_xCall pu_m_rows_of (pu_xCons pu_xVar pu_xNil))))
def b_count_with_groups_1 : Sm := (sApp 4 (x2 kAdd (x2 kIx (xVar 2) (x2 kSub (xVar 5) (xC (.int 1)))) (xIf (xT (x2 kLt (xVar 5) (xVar 3))) (x2 kMul (xVar 5) (x2 kIx (xVar 2) (xVar 5))) (xC (.int 0)))))
def b_count_with_groups_2 : Sm := (sSeq (sOwn 4 (xLst (xCons (xC (.int 0)) xNil))) (sSeq (sFor (fun ρ => M.bind ((xCons (xC (.int 1)) (xCons (x2 kAdd (xVar 3) (xC (.int 1))) xNil)) ρ) kRg2) (.nm 5) b_count_with_groups_1) (sFrz 4 (sSet 2 (xVar 4)))))
def f_count_with_groups : Sm := (sSeq (sIf (xNot (xT (xCall m_is_int (xCons (xVar 0) (xCons (xC (.int 1)) (xCons (xC (.int 20)) xNil)))))) (sErr "BadNumber") sNx) (sSeq (sIf (xNot (xT (xCall m_is_int (xCons (xVar 1) (xCons (xC (.int 0)) (xCons (xC (.int 20)) xNil)))))) (sErr "BadNumber") sNx) (sSeq (sSet 2 (xLst (xCons (xC (.int 1)) xNil))) (sSeq (sFor (fun ρ => M.bind ((xCons (xC (.int 1)) (xCons (x2 kAdd (xVar 0) (xC (.int 1))) xNil)) ρ) kRg2) (.nm 3) b_count_with_groups_2) (sRet (xIf (xT (x2 kLe (xVar 1) (xVar 0))) (x2 kIx (xVar 2) (xVar 1)) (xC (.int 0))))))))
def m_count_with_groups : List D → M D := runF 6 f_count_with_groups
theorem pu_m_count_with_groups : ∀ ds : List D, Pu (m_count_with_groups ds) := pu_runF (b := f_count_with_groups) (pus_seq (pus_if (pu_xNot (pu_xT (pu_xCall pu_m_is_int (pu_xCons pu_xVar (pu_xCons pu_xC (pu_xCons pu_xC pu_xNil)))))) pus_err pus_nx) (pus_seq (pus_if (pu_xNot (pu_xT (pu_xCall pu_m_is_int (pu_xCons pu_xVar (pu_xCons pu_xC (pu_xCons pu_xC pu_xNil)))))) pus_err pus_nx) (pus_seq (pus_set (pu_xLst (pu_xCons pu_xC pu_xNil))) (pus_seq (pus_for (pu_xItL pu_kRg2 (pu_xCons pu_xC (pu_xCons (pu_x2 pu_kAdd pu_xVar pu_xC) pu_xNil))) (pus_seq (pus_own (pu_xLst (pu_xCons pu_xC pu_xNil))) (pus_seq (pus_for (pu_xItL pu_kRg2 (pu_xCons pu_xC (pu_xCons (pu_x2 pu_kAdd pu_xVar pu_xC) pu_xNil))) (pus_app (pu_x2 pu_kAdd (pu_x2 pu_kIx pu_xVar (pu_x2 pu_kSub pu_xVar pu_xC)) (pu_xIf (pu_xT (pu_x2 pu_kLt pu_xVar pu_xVar)) (pu_x2 pu_kMul pu_xVar (pu_x2 pu_kIx pu_xVar pu_xVar)) pu_xC)))) (pus_frz (pus_set pu_xVar))))) (pus_ret (pu_xIf (pu_xT (pu_x2 pu_kLe pu_xVar pu_xVar)) (pu_x2 pu_kIx pu_xVar pu_xVar) pu_xC))))))
def f_count_all : Sm := (sSeq (sIf (xNot (xT (xCall m_is_int (xCons (xVar 0) (xCons (xC (.int 1)) (xCons (xC (.int 20)) xNil)))))) (sErr "BadNumber") sNx) (sRet (xCall kSum (xCons (xLc [1] (.nm 1) (fun ρ => M.bind ((xCons (xC (.int 1)) (xCons (x2 kAdd (xVar 0) (xC (.int 1))) xNil)) ρ) kRg2) xYes (xCall m_count_with_groups (xCons (xVar 0) (xCons (xVar 1) xNil)))) xNil))))
def m_count_all : List D → M D := runF 2 f_count_all
theorem pu_m_count_all : ∀ ds : List D, Pu (m_count_all ds) := pu_runF (b := f_count_all) (pus_seq (pus_if (pu_xNot (pu_xT (pu_xCall pu_m_is_int (pu_xCons pu_xVar (pu_xCons pu_xC (pu_xCons pu_xC pu_xNil)))))) pus_err pus_nx) (pus_ret (pu_xCall pu_kSum (pu_xCons (pu_xLc (pu_xItL pu_kRg2 (pu_xCons pu_xC (pu_xCons (pu_x2 pu_kAdd pu_xVar pu_xC) pu_xNil))) pu_xYes (pu_xCall pu_m_count_with_groups (pu_xCons pu_xVar (pu_xCons pu_xVar pu_xNil)))) pu_xNil))))
def b_with_sizes_1 : Sm := (sIf (xT (x2 kEq (xCall kSortI (xCons (xLc [5] (.nm 5) (xIt kRg (x2 kAdd (xCall kMax (xCons (xVar 3) xNil)) (xC (.int 1)))) xYes (xMeth "list" kCount (xVar 3) (xCons (xVar 5) xNil))) xNil)) (xCall kSortI (xCons (xVar 1) xNil)))) (sApp 2 (xVar 3)) sNx)
def f_with_sizes : Sm := (sSeq (sDrop (xCall m_check_size (xCons (xVar 0) xNil))) (sSeq (sIf (xOr (xNot (xT (x1 (kIsi "tuple") (xVar 1)))) (xOr (xNot (xT (xCall kAll (xCons (xLc [4] (.nm 4) (xIt asS (xVar 1)) xYes (xCall m_is_int (xCons (xVar 4) (xCons (xC (.int 1)) (xCons (xC (.int 7)) xNil))))) xNil)))) (xT (x2 kNe (xCall kSum (xCons (xVar 1) xNil)) (xVar 0))))) (sErr "BadNumber") sNx) (sSeq (sOwn 2 (xLst xNil)) (sSeq (sFor (xIt asL (xCall m_rows_of (xCons (xVar 0) xNil))) (.nm 3) b_with_sizes_1) (sFrz 2 (sRet (xVar 2)))))))
def m_with_sizes : List D → M D := runF 6 f_with_sizes
theorem pu_m_with_sizes : ∀ ds : List D, Pu (m_with_sizes ds) := pu_runF (b := f_with_sizes) (pus_seq (pus_drop (pu_xCall pu_m_check_size (pu_xCons pu_xVar pu_xNil))) (pus_seq (pus_if (pu_xOr (pu_xNot (pu_xT (pu_x1 (pu_kIsi "tuple") pu_xVar))) (pu_xOr (pu_xNot (pu_xT (pu_xCall pu_kAll (pu_xCons (pu_xLc (pu_xIt pu_asS pu_xVar) pu_xYes (pu_xCall pu_m_is_int (pu_xCons pu_xVar (pu_xCons pu_xC (pu_xCons pu_xC pu_xNil))))) pu_xNil)))) (pu_xT (pu_x2 pu_kNe (pu_xCall pu_kSum (pu_xCons pu_xVar pu_xNil)) pu_xVar)))) pus_err pus_nx) (pus_seq (pus_own (pu_xLst pu_xNil)) (pus_seq (pus_for (pu_xIt pu_asL (pu_xCall pu_m_rows_of (pu_xCons pu_xVar pu_xNil))) (pus_if (pu_xT (pu_x2 pu_kEq (pu_xCall pu_kSortI (pu_xCons (pu_xLc (pu_xIt pu_kRg (pu_x2 pu_kAdd (pu_xCall pu_kMax (pu_xCons pu_xVar pu_xNil)) pu_xC)) pu_xYes (pu_xMeth pu_kCount pu_xVar (pu_xCons pu_xVar pu_xNil))) pu_xNil)) (pu_xCall pu_kSortI (pu_xCons pu_xVar pu_xNil)))) (pus_app pu_xVar) pus_nx)) (pus_frz (pus_ret pu_xVar))))))
def f_rank_of : Sm := (sSeq (sDrop (xCall m_check_grouping (xCons (xVar 0) xNil))) (sRet (xMeth "list" kIndex (xCall m_rows_of (xCons (xCall kLen (xCons (xVar 0) xNil)) xNil)) (xCons (xVar 0) xNil))))
def m_rank_of : List D → M D := runF 1 f_rank_of
theorem pu_m_rank_of : ∀ ds : List D, Pu (m_rank_of ds) := pu_runF (b := f_rank_of) (pus_seq (pus_drop (pu_xCall pu_m_check_grouping (pu_xCons pu_xVar pu_xNil))) (pus_ret (pu_xMeth pu_kIndex (pu_xCall pu_m_rows_of (pu_xCons (pu_xCall pu_kLen (pu_xCons pu_xVar pu_xNil)) pu_xNil)) (pu_xCons pu_xVar pu_xNil))))
def f_grouping_at : Sm := (sSeq (sDrop (xCall m_check_size (xCons (xVar 0) xNil))) (sSeq (sSet 2 (xCall m_rows_of (xCons (xVar 0) xNil))) (sSeq (sIf (xNot (xT (xCall m_is_int (xCons (xVar 1) (xCons (xC (.int 0)) (xCons (x2 kSub (xCall kLen (xCons (xVar 2) xNil)) (xC (.int 1))) xNil)))))) (sErr "BadNumber") sNx) (sRet (x2 kIx (xVar 2) (xVar 1))))))
def m_grouping_at : List D → M D := runF 3 f_grouping_at
theorem pu_m_grouping_at : ∀ ds : List D, Pu (m_grouping_at ds) := pu_runF (b := f_grouping_at) (pus_seq (pus_drop (pu_xCall pu_m_check_size (pu_xCons pu_xVar pu_xNil))) (pus_seq (pus_set (pu_xCall pu_m_rows_of (pu_xCons pu_xVar pu_xNil))) (pus_seq (pus_if (pu_xNot (pu_xT (pu_xCall pu_m_is_int (pu_xCons pu_xVar (pu_xCons pu_xC (pu_xCons (pu_x2 pu_kSub (pu_xCall pu_kLen (pu_xCons pu_xVar pu_xNil)) pu_xC) pu_xNil)))))) pus_err pus_nx) (pus_ret (pu_x2 pu_kIx pu_xVar pu_xVar)))))
def b_check_pairs_1 : Sm := (sSeq (sIf (xOr (xNot (xT (x1 (kIsi "tuple") (xVar 2)))) (xOr (xT (x2 kNe (xCall kLen (xCons (xVar 2) xNil)) (xC (.int 2)))) (xNot (xT (xCall kAll (xCons (xLc [3] (.nm 3) (xIt asS (xVar 2)) xYes (xCall m_is_int (xCons (xVar 3) (xCons (xC (.int 0)) (xCons (x2 kSub (xVar 0) (xC (.int 1))) xNil))))) xNil)))))) (sErr "BadPairs") sNx) (sIf (xT (x2 kEq (x2 kIx (xVar 2) (xC (.int 0))) (x2 kIx (xVar 2) (xC (.int 1))))) (sErr "BadPairs") sNx))
def f_check_pairs : Sm := (sSeq (sIf (xOr (xNot (xT (x1 (kIsi "list") (xVar 1)))) (xT (x2 kGt (xCall kLen (xCons (xVar 1) xNil)) (xC (.int 21))))) (sErr "BadPairs") sNx) (sFor (xIt asL (xVar 1)) (.nm 2) b_check_pairs_1))
def m_check_pairs : List D → M D := runF 4 f_check_pairs
theorem pu_m_check_pairs : ∀ ds : List D, Pu (m_check_pairs ds) := pu_runF (b := f_check_pairs) (pus_seq (pus_if (pu_xOr (pu_xNot (pu_xT (pu_x1 (pu_kIsi "list") pu_xVar))) (pu_xT (pu_x2 pu_kGt (pu_xCall pu_kLen (pu_xCons pu_xVar pu_xNil)) pu_xC))) pus_err pus_nx) (pus_for (pu_xIt pu_asL pu_xVar) (pus_seq (pus_if (pu_xOr (pu_xNot (pu_xT (pu_x1 (pu_kIsi "tuple") pu_xVar))) (pu_xOr (pu_xT (pu_x2 pu_kNe (pu_xCall pu_kLen (pu_xCons pu_xVar pu_xNil)) pu_xC)) (pu_xNot (pu_xT (pu_xCall pu_kAll (pu_xCons (pu_xLc (pu_xIt pu_asS pu_xVar) pu_xYes (pu_xCall pu_m_is_int (pu_xCons pu_xVar (pu_xCons pu_xC (pu_xCons (pu_x2 pu_kSub pu_xVar pu_xC) pu_xNil))))) pu_xNil)))))) pus_err pus_nx) (pus_if (pu_xT (pu_x2 pu_kEq (pu_x2 pu_kIx pu_xVar pu_xC) (pu_x2 pu_kIx pu_xVar pu_xC))) pus_err pus_nx))))
def f_check_wishes : Sm := (sSeq (sDrop (xCall m_check_size (xCons (xVar 0) xNil))) (sSeq (sDrop (xCall m_check_pairs (xCons (xVar 0) (xCons (xVar 1) xNil)))) (sDrop (xCall m_check_pairs (xCons (xVar 0) (xCons (xVar 2) xNil))))))
def m_check_wishes : List D → M D := runF 3 f_check_wishes
theorem pu_m_check_wishes : ∀ ds : List D, Pu (m_check_wishes ds) := pu_runF (b := f_check_wishes) (pus_seq (pus_drop (pu_xCall pu_m_check_size (pu_xCons pu_xVar pu_xNil))) (pus_seq (pus_drop (pu_xCall pu_m_check_pairs (pu_xCons pu_xVar (pu_xCons pu_xVar pu_xNil)))) (pus_drop (pu_xCall pu_m_check_pairs (pu_xCons pu_xVar (pu_xCons pu_xVar pu_xNil))))))
def b_chained_1 : Sm := (sSeq (sSet 6 (xCall kMin2 (xCons (x2 kIx (xPeek 2) (xVar 4)) (xCons (x2 kIx (xPeek 2) (xVar 5)) xNil)))) (sPut2 2 (xVar 4) (xVar 5) (xTup (xCons (xVar 6) (xCons (xVar 6) xNil)))))
def b_chained_2 : Sm := (sFor (xIt asL (xVar 1)) (.tp [4, 5]) b_chained_1)
def f_chained : Sm := (sSeq (sOwn 2 (x1 kLstRg (xVar 0))) (sSeq (sFor (xIt kRg (xVar 0)) (.nm 3) b_chained_2) (sFrz 2 (sRet (xCall m_numbered (xCons (xVar 2) xNil))))))
def m_chained : List D → M D := runF 7 f_chained
theorem pu_m_chained : ∀ ds : List D, Pu (m_chained ds) := pu_runF (b := f_chained) (pus_seq (pus_own (pu_x1 pu_kLstRg pu_xVar)) (pus_seq (pus_for (pu_xIt pu_kRg pu_xVar) (pus_for (pu_xIt pu_asL pu_xVar) (pus_seq (pus_set (pu_xCall pu_kMin2 (pu_xCons (pu_x2 pu_kIx pu_xPeek pu_xVar) (pu_xCons (pu_x2 pu_kIx pu_xPeek pu_xVar) pu_xNil)))) (pus_put2 pu_xVar pu_xVar (pu_xTup (pu_xCons pu_xVar (pu_xCons pu_xVar pu_xNil))))))) (pus_frz (pus_ret (pu_xCall pu_m_numbered (pu_xCons pu_xVar pu_xNil))))))
def f_chains : Sm := (sSeq (sDrop (xCall m_check_size (xCons (xVar 0) xNil))) (sSeq (sDrop (xCall m_check_pairs (xCons (xVar 0) (xCons (xVar 1) xNil)))) (sRet (xCall m_chained (xCons (xVar 0) (xCons (xVar 1) xNil))))))
def m_chains : List D → M D := runF 2 f_chains
theorem pu_m_chains : ∀ ds : List D, Pu (m_chains ds) := pu_runF (b := f_chains) (pus_seq (pus_drop (pu_xCall pu_m_check_size (pu_xCons pu_xVar pu_xNil))) (pus_seq (pus_drop (pu_xCall pu_m_check_pairs (pu_xCons pu_xVar (pu_xCons pu_xVar pu_xNil)))) (pus_ret (pu_xCall pu_m_chained (pu_xCons pu_xVar (pu_xCons pu_xVar pu_xNil))))))
def f_can_be : Sm := (sSeq (sDrop (xCall m_check_wishes (xCons (xVar 0) (xCons (xVar 1) (xCons (xVar 2) xNil))))) (sSeq (sSet 3 (xCall m_chained (xCons (xVar 0) (xCons (xVar 1) xNil)))) (sRet (xCall kAll (xCons (xLc [4, 5] (.tp [4, 5]) (xIt asL (xVar 2)) xYes (x2 kNe (x2 kIx (xVar 3) (xVar 4)) (x2 kIx (xVar 3) (xVar 5)))) xNil)))))
def m_can_be : List D → M D := runF 6 f_can_be
theorem pu_m_can_be : ∀ ds : List D, Pu (m_can_be ds) := pu_runF (b := f_can_be) (pus_seq (pus_drop (pu_xCall pu_m_check_wishes (pu_xCons pu_xVar (pu_xCons pu_xVar (pu_xCons pu_xVar pu_xNil))))) (pus_seq (pus_set (pu_xCall pu_m_chained (pu_xCons pu_xVar (pu_xCons pu_xVar pu_xNil)))) (pus_ret (pu_xCall pu_kAll (pu_xCons (pu_xLc (pu_xIt pu_asL pu_xVar) pu_xYes (pu_x2 pu_kNe (pu_x2 pu_kIx pu_xVar pu_xVar) (pu_x2 pu_kIx pu_xVar pu_xVar))) pu_xNil)))))
def f_first_against : Sm := (sSeq (sDrop (xCall m_check_wishes (xCons (xVar 0) (xCons (xVar 1) (xCons (xVar 2) xNil))))) (sSeq (sSet 3 (xCall m_chained (xCons (xVar 0) (xCons (xVar 1) xNil)))) (sSeq (sSet 4 (xLc [5, 6] (.tp [5, 6]) (xIt asL (xVar 2)) (xT (x2 kEq (x2 kIx (xVar 3) (xVar 5)) (x2 kIx (xVar 3) (xVar 6)))) (xTup (xCons (xVar 5) (xCons (xVar 6) xNil))))) (sRet (xIf (xT (x2 kNe (xVar 4) (xLst xNil))) (x2 kIx (xVar 4) (xC (.int 0))) (xC .none))))))
def m_first_against : List D → M D := runF 7 f_first_against
theorem pu_m_first_against : ∀ ds : List D, Pu (m_first_against ds) := pu_runF (b := f_first_against) (pus_seq (pus_drop (pu_xCall pu_m_check_wishes (pu_xCons pu_xVar (pu_xCons pu_xVar (pu_xCons pu_xVar pu_xNil))))) (pus_seq (pus_set (pu_xCall pu_m_chained (pu_xCons pu_xVar (pu_xCons pu_xVar pu_xNil)))) (pus_seq (pus_set (pu_xLc (pu_xIt pu_asL pu_xVar) (pu_xT (pu_x2 pu_kEq (pu_x2 pu_kIx pu_xVar pu_xVar) (pu_x2 pu_kIx pu_xVar pu_xVar))) (pu_xTup (pu_xCons pu_xVar (pu_xCons pu_xVar pu_xNil))))) (pus_ret (pu_xIf (pu_xT (pu_x2 pu_kNe pu_xVar (pu_xLst pu_xNil))) (pu_x2 pu_kIx pu_xVar pu_xC) pu_xC)))))
def b_fitting_1 : Sm := (sIf (xAnd (xT (xCall kAll (xCons (xLc [5, 6] (.tp [5, 6]) (xIt asL (xVar 1)) xYes (x2 kEq (x2 kIx (xVar 4) (xVar 5)) (x2 kIx (xVar 4) (xVar 6)))) xNil))) (xT (xCall kAll (xCons (xLc [5, 6] (.tp [5, 6]) (xIt asL (xVar 2)) xYes (x2 kNe (x2 kIx (xVar 4) (xVar 5)) (x2 kIx (xVar 4) (xVar 6)))) xNil)))) (sApp 3 (xVar 4)) sNx)
def f_fitting : Sm := (sSeq (sOwn 3 (xLst xNil)) (sSeq (sFor (xIt asL (xCall m_rows_of (xCons (xVar 0) xNil))) (.nm 4) b_fitting_1) (sFrz 3 (sRet (xVar 3)))))
def m_fitting : List D → M D := runF 7 f_fitting
theorem pu_m_fitting : ∀ ds : List D, Pu (m_fitting ds) := pu_runF (b := f_fitting) (pus_seq (pus_own (pu_xLst pu_xNil)) (pus_seq (pus_for (pu_xIt pu_asL (pu_xCall pu_m_rows_of (pu_xCons pu_xVar pu_xNil))) (pus_if (pu_xAnd (pu_xT (pu_xCall pu_kAll (pu_xCons (pu_xLc (pu_xIt pu_asL pu_xVar) pu_xYes (pu_x2 pu_kEq (pu_x2 pu_kIx pu_xVar pu_xVar) (pu_x2 pu_kIx pu_xVar pu_xVar))) pu_xNil))) (pu_xT (pu_xCall pu_kAll (pu_xCons (pu_xLc (pu_xIt pu_asL pu_xVar) pu_xYes (pu_x2 pu_kNe (pu_x2 pu_kIx pu_xVar pu_xVar) (pu_x2 pu_kIx pu_xVar pu_xVar))) pu_xNil)))) (pus_app pu_xVar) pus_nx)) (pus_frz (pus_ret pu_xVar))))
def f_all_fitting : Sm := (sSeq (sDrop (xCall m_check_wishes (xCons (xVar 0) (xCons (xVar 1) (xCons (xVar 2) xNil))))) (sRet (xCall m_fitting (xCons (xVar 0) (xCons (xVar 1) (xCons (xVar 2) xNil))))))
def m_all_fitting : List D → M D := runF 3 f_all_fitting
theorem pu_m_all_fitting : ∀ ds : List D, Pu (m_all_fitting ds) := pu_runF (b := f_all_fitting) (pus_seq (pus_drop (pu_xCall pu_m_check_wishes (pu_xCons pu_xVar (pu_xCons pu_xVar (pu_xCons pu_xVar pu_xNil))))) (pus_ret (pu_xCall pu_m_fitting (pu_xCons pu_xVar (pu_xCons pu_xVar (pu_xCons pu_xVar pu_xNil))))))
def f_fewest_groups : Sm := (sSeq (sDrop (xCall m_check_wishes (xCons (xVar 0) (xCons (xVar 1) (xCons (xVar 2) xNil))))) (sSeq (sSet 3 (xCall m_fitting (xCons (xVar 0) (xCons (xVar 1) (xCons (xVar 2) xNil))))) (sSeq (sIf (xT (x2 kEq (xVar 3) (xLst xNil))) (sErr "NotFound") sNx) (sRet (xCall kMin (xCons (xLc [4] (.nm 4) (xIt asL (xVar 3)) xYes (x2 kAdd (xCall kMax (xCons (xVar 4) xNil)) (xC (.int 1)))) xNil))))))
def m_fewest_groups : List D → M D := runF 5 f_fewest_groups
theorem pu_m_fewest_groups : ∀ ds : List D, Pu (m_fewest_groups ds) := pu_runF (b := f_fewest_groups) (pus_seq (pus_drop (pu_xCall pu_m_check_wishes (pu_xCons pu_xVar (pu_xCons pu_xVar (pu_xCons pu_xVar pu_xNil))))) (pus_seq (pus_set (pu_xCall pu_m_fitting (pu_xCons pu_xVar (pu_xCons pu_xVar (pu_xCons pu_xVar pu_xNil))))) (pus_seq (pus_if (pu_xT (pu_x2 pu_kEq pu_xVar (pu_xLst pu_xNil))) pus_err pus_nx) (pus_ret (pu_xCall pu_kMin (pu_xCons (pu_xLc (pu_xIt pu_asL pu_xVar) pu_xYes (pu_x2 pu_kAdd (pu_xCall pu_kMax (pu_xCons pu_xVar pu_xNil)) pu_xC)) pu_xNil))))))
def f_sure_pairs : Sm := (sSeq (sDrop (xCall m_check_wishes (xCons (xVar 0) (xCons (xVar 1) (xCons (xVar 2) xNil))))) (sSeq (sSet 3 (xCall m_fitting (xCons (xVar 0) (xCons (xVar 1) (xCons (xVar 2) xNil))))) (sSeq (sIf (xT (x2 kEq (xVar 3) (xLst xNil))) (sErr "NotFound") sNx) (sSeq (sSet 4 (xCall m_all_pairs (xCons (xVar 0) xNil))) (sSeq (sSet 5 (xLc [6, 7] (.tp [6, 7]) (xIt asL (xVar 4)) (xT (xCall kAll (xCons (xLc [8] (.nm 8) (xIt asL (xVar 3)) xYes (x2 kEq (x2 kIx (xVar 8) (xVar 6)) (x2 kIx (xVar 8) (xVar 7)))) xNil))) (xTup (xCons (xVar 6) (xCons (xVar 7) xNil))))) (sRet (xTup (xCons (xVar 5) (xCons (xLc [6, 7] (.tp [6, 7]) (xIt asL (xVar 4)) (xT (xCall kAll (xCons (xLc [8] (.nm 8) (xIt asL (xVar 3)) xYes (x2 kNe (x2 kIx (xVar 8) (xVar 6)) (x2 kIx (xVar 8) (xVar 7)))) xNil))) (xTup (xCons (xVar 6) (xCons (xVar 7) xNil)))) xNil)))))))))
def m_sure_pairs : List D → M D := runF 9 f_sure_pairs
theorem pu_m_sure_pairs : ∀ ds : List D, Pu (m_sure_pairs ds) := pu_runF (b := f_sure_pairs) (pus_seq (pus_drop (pu_xCall pu_m_check_wishes (pu_xCons pu_xVar (pu_xCons pu_xVar (pu_xCons pu_xVar pu_xNil))))) (pus_seq (pus_set (pu_xCall pu_m_fitting (pu_xCons pu_xVar (pu_xCons pu_xVar (pu_xCons pu_xVar pu_xNil))))) (pus_seq (pus_if (pu_xT (pu_x2 pu_kEq pu_xVar (pu_xLst pu_xNil))) pus_err pus_nx) (pus_seq (pus_set (pu_xCall pu_m_all_pairs (pu_xCons pu_xVar pu_xNil))) (pus_seq (pus_set (pu_xLc (pu_xIt pu_asL pu_xVar) (pu_xT (pu_xCall pu_kAll (pu_xCons (pu_xLc (pu_xIt pu_asL pu_xVar) pu_xYes (pu_x2 pu_kEq (pu_x2 pu_kIx pu_xVar pu_xVar) (pu_x2 pu_kIx pu_xVar pu_xVar))) pu_xNil))) (pu_xTup (pu_xCons pu_xVar (pu_xCons pu_xVar pu_xNil))))) (pus_ret (pu_xTup (pu_xCons pu_xVar (pu_xCons (pu_xLc (pu_xIt pu_asL pu_xVar) (pu_xT (pu_xCall pu_kAll (pu_xCons (pu_xLc (pu_xIt pu_asL pu_xVar) pu_xYes (pu_x2 pu_kNe (pu_x2 pu_kIx pu_xVar pu_xVar) (pu_x2 pu_kIx pu_xVar pu_xVar))) pu_xNil))) (pu_xTup (pu_xCons pu_xVar (pu_xCons pu_xVar pu_xNil)))) pu_xNil)))))))))
def b__law_drawn_1 : Sm := (sSeq (sSet 5 (xCall m__law_draw (xCons (xVar 0) (xCons (xVar 1) xNil)))) (sApp 3 (xTup (xCons (xVar 5) (xCons (x2 kMod (x2 kAdd (x2 kAdd (xVar 5) (xC (.int 1))) (xCall m__law_draw (xCons (xVar 0) (xCons (x2 kSub (xVar 1) (xC (.int 1))) xNil)))) (xVar 1)) xNil)))))
def f__law_drawn : Sm := (sSeq (sOwn 3 (xLst xNil)) (sSeq (sFor (xIt kRg (xIf (xT (x2 kGt (xVar 1) (xC (.int 1)))) (xCall m__law_draw (xCons (xVar 0) (xCons (xVar 2) xNil))) (xC (.int 0)))) (.nm 4) b__law_drawn_1) (sFrz 3 (sRet (xVar 3)))))
def m__law_drawn : List D → M D := runF 6 f__law_drawn
-- _law_drawn draws (m__law_draw)
def b_shortest_chain_1 : Sm := (sIf (xAnd (xT (x2 kNotIn (xVar 9) (xPeek 5))) (xOr (xT (x2 kIn (xTup (xCons (x2 kIx (xVar 8) (x1 kNeg (xC (.int 1)))) (xCons (xVar 9) xNil))) (xVar 1))) (xT (x2 kIn (xTup (xCons (xVar 9) (xCons (x2 kIx (xVar 8) (x1 kNeg (xC (.int 1)))) xNil))) (xVar 1))))) (sSeq (sApp 5 (xVar 9)) (sApp 7 (x2 kAdd (xVar 8) (xLst (xCons (xVar 9) xNil))))) sNx)
def b_shortest_chain_2 : Sm := (sSeq (sIf (xT (x2 kEq (x2 kIx (xVar 8) (x1 kNeg (xC (.int 1)))) (xVar 3))) (sRet (xVar 8)) sNx) (sFor (xIt kRg (xVar 0)) (.nm 9) b_shortest_chain_1))
def b_shortest_chain_3 : Sm := (sSeq (sOwn 7 (xLst xNil)) (sSeq (sFor (xIt asL (xVar 4)) (.nm 8) b_shortest_chain_2) (sFrz 7 (sSet 4 (xVar 7)))))
def f_shortest_chain : Sm := (sSeq (sDrop (xCall m_check_size (xCons (xVar 0) xNil))) (sSeq (sDrop (xCall m_check_pairs (xCons (xVar 0) (xCons (xVar 1) xNil)))) (sSeq (sDrop (xCall m_check_pairs (xCons (xVar 0) (xCons (xLst (xCons (xTup (xCons (xVar 2) (xCons (xVar 3) xNil))) xNil)) xNil)))) (sSeq (sSet 4 (xLst (xCons (xLst (xCons (xVar 2) xNil)) xNil))) (sSeq (sOwn 5 (xLst (xCons (xVar 2) xNil))) (sSeq (sFor (xIt kRg (xVar 0)) (.nm 6) b_shortest_chain_3) (sErr "NotFound")))))))
def m_shortest_chain : List D → M D := runF 10 f_shortest_chain
theorem pu_m_shortest_chain : ∀ ds : List D, Pu (m_shortest_chain ds) := pu_runF (b := f_shortest_chain) (pus_seq (pus_drop (pu_xCall pu_m_check_size (pu_xCons pu_xVar pu_xNil))) (pus_seq (pus_drop (pu_xCall pu_m_check_pairs (pu_xCons pu_xVar (pu_xCons pu_xVar pu_xNil)))) (pus_seq (pus_drop (pu_xCall pu_m_check_pairs (pu_xCons pu_xVar (pu_xCons (pu_xLst (pu_xCons (pu_xTup (pu_xCons pu_xVar (pu_xCons pu_xVar pu_xNil))) pu_xNil)) pu_xNil)))) (pus_seq (pus_set (pu_xLst (pu_xCons (pu_xLst (pu_xCons pu_xVar pu_xNil)) pu_xNil))) (pus_seq (pus_own (pu_xLst (pu_xCons pu_xVar pu_xNil))) (pus_seq (pus_for (pu_xIt pu_kRg pu_xVar) (pus_seq (pus_own (pu_xLst pu_xNil)) (pus_seq (pus_for (pu_xIt pu_asL pu_xVar) (pus_seq (pus_if (pu_xT (pu_x2 pu_kEq (pu_x2 pu_kIx pu_xVar (pu_x1 pu_kNeg pu_xC)) pu_xVar)) (pus_ret pu_xVar) pus_nx) (pus_for (pu_xIt pu_kRg pu_xVar) (pus_if (pu_xAnd (pu_xT (pu_x2 pu_kNotIn pu_xVar pu_xPeek)) (pu_xOr (pu_xT (pu_x2 pu_kIn (pu_xTup (pu_xCons (pu_x2 pu_kIx pu_xVar (pu_x1 pu_kNeg pu_xC)) (pu_xCons pu_xVar pu_xNil))) pu_xVar)) (pu_xT (pu_x2 pu_kIn (pu_xTup (pu_xCons pu_xVar (pu_xCons (pu_x2 pu_kIx pu_xVar (pu_x1 pu_kNeg pu_xC)) pu_xNil))) pu_xVar)))) (pus_seq (pus_app pu_xVar) (pus_app (pu_x2 pu_kAdd pu_xVar (pu_xLst (pu_xCons pu_xVar pu_xNil))))) pus_nx)))) (pus_frz (pus_set pu_xVar))))) pus_err))))))
def f__law_chain : Sm := (sSeq (sSet 4 (xC .none)) (sSeq (sSet 5 (xC .none)) (sSeq (sTry 6 errs (sSet 4 (xCall m_shortest_chain (xCons (xVar 0) (xCons (xVar 1) (xCons (xVar 2) (xCons (xVar 3) xNil)))))) (sSet 5 (xVar 6))) (sRet (xIf (xT (x2 kIs (xVar 5) (xC .none))) (xVar 4) (xCall m__law_error (xCons (xVar 5) xNil)))))))
def m__law_chain : List D → M D := runF 7 f__law_chain
theorem pu_m__law_chain : ∀ ds : List D, Pu (m__law_chain ds) := pu_runF (b := f__law_chain) (pus_seq (pus_set pu_xC) (pus_seq (pus_set pu_xC) (pus_seq (pus_try (pus_set (pu_xCall pu_m_shortest_chain (pu_xCons pu_xVar (pu_xCons pu_xVar (pu_xCons pu_xVar (pu_xCons pu_xVar pu_xNil)))))) (pus_set pu_xVar)) (pus_ret (pu_xIf (pu_xT (pu_x2 pu_kIs pu_xVar pu_xC)) pu_xVar (pu_xCall pu_m__law_error (pu_xCons pu_xVar pu_xNil)))))))
def f_without_thing : Sm := (sSeq (sDrop (xCall m_check_grouping (xCons (xVar 0) xNil))) (sSeq (sDrop (xCall m_check_place (xCons (xVar 0) (xCons (xVar 1) xNil)))) (sSeq (sIf (xT (x2 kEq (xCall kLen (xCons (xVar 0) xNil)) (xC (.int 1)))) (sErr "BadNumber") sNx) (sRet (xCall m_numbered (xCons (x2 kAdd (xSl (xVar 0) xNoPart (xPart (xVar 1))) (xSl (xVar 0) (xPart (x2 kAdd (xVar 1) (xC (.int 1)))) xNoPart)) xNil))))))
def m_without_thing : List D → M D := runF 2 f_without_thing
theorem pu_m_without_thing : ∀ ds : List D, Pu (m_without_thing ds) := pu_runF (b := f_without_thing) (pus_seq (pus_drop (pu_xCall pu_m_check_grouping (pu_xCons pu_xVar pu_xNil))) (pus_seq (pus_drop (pu_xCall pu_m_check_place (pu_xCons pu_xVar (pu_xCons pu_xVar pu_xNil)))) (pus_seq (pus_if (pu_xT (pu_x2 pu_kEq (pu_xCall pu_kLen (pu_xCons pu_xVar pu_xNil)) pu_xC)) pus_err pus_nx) (pus_ret (pu_xCall pu_m_numbered (pu_xCons (pu_x2 pu_kAdd (pu_xSl pu_xVar pu_xNoPart (pu_xPart pu_xVar)) (pu_xSl pu_xVar (pu_xPart (pu_x2 pu_kAdd pu_xVar pu_xC)) pu_xNoPart)) pu_xNil))))))
def f_checked : Sm := (sSeq (sIf (xNot (xT (xCall m_is_grouping (xCons (xVar 0) xNil)))) (sErr "BadGrouping") sNx) (sRet (xVar 0)))
def m_checked : List D → M D := runF 1 f_checked
theorem pu_m_checked : ∀ ds : List D, Pu (m_checked ds) := pu_runF (b := f_checked) (pus_seq (pus_if (pu_xNot (pu_xT (pu_xCall pu_m_is_grouping (pu_xCons pu_xVar pu_xNil)))) pus_err pus_nx) (pus_ret pu_xVar))
def f_with_thing : Sm := (sSeq (sDrop (xCall m_check_grouping (xCons (xVar 0) xNil))) (sSeq (sIf (xNot (xT (xCall m_is_int (xCons (xVar 1) (xCons (xC (.int 0)) (xCons (x2 kAdd (xCall kMax (xCons (xVar 0) xNil)) (xC (.int 1))) xNil)))))) (sErr "BadNumber") sNx) (sRet (xCall m_checked (xCons (x2 kAdd (xVar 0) (xLst (xCons (xVar 1) xNil))) xNil)))))
def m_with_thing : List D → M D := runF 2 f_with_thing
theorem pu_m_with_thing : ∀ ds : List D, Pu (m_with_thing ds) := pu_runF (b := f_with_thing) (pus_seq (pus_drop (pu_xCall pu_m_check_grouping (pu_xCons pu_xVar pu_xNil))) (pus_seq (pus_if (pu_xNot (pu_xT (pu_xCall pu_m_is_int (pu_xCons pu_xVar (pu_xCons pu_xC (pu_xCons (pu_x2 pu_kAdd (pu_xCall pu_kMax (pu_xCons pu_xVar pu_xNil)) pu_xC) pu_xNil)))))) pus_err pus_nx) (pus_ret (pu_xCall pu_m_checked (pu_xCons (pu_x2 pu_kAdd pu_xVar (pu_xLst (pu_xCons pu_xVar pu_xNil))) pu_xNil)))))
def f_side_by_side : Sm := (sSeq (sDrop (xCall m_check_grouping (xCons (xVar 0) xNil))) (sSeq (sDrop (xCall m_check_grouping (xCons (xVar 1) xNil))) (sRet (xCall m_checked (xCons (x2 kAdd (xVar 0) (xLc [2] (.nm 2) (xIt asL (xVar 1)) xYes (x2 kAdd (x2 kAdd (xCall kMax (xCons (xVar 0) xNil)) (xC (.int 1))) (xVar 2)))) xNil)))))
def m_side_by_side : List D → M D := runF 3 f_side_by_side
theorem pu_m_side_by_side : ∀ ds : List D, Pu (m_side_by_side ds) := pu_runF (b := f_side_by_side) (pus_seq (pus_drop (pu_xCall pu_m_check_grouping (pu_xCons pu_xVar pu_xNil))) (pus_seq (pus_drop (pu_xCall pu_m_check_grouping (pu_xCons pu_xVar pu_xNil))) (pus_ret (pu_xCall pu_m_checked (pu_xCons (pu_x2 pu_kAdd pu_xVar (pu_xLc (pu_xIt pu_asL pu_xVar) pu_xYes (pu_x2 pu_kAdd (pu_x2 pu_kAdd (pu_xCall pu_kMax (pu_xCons pu_xVar pu_xNil)) pu_xC) pu_xVar))) pu_xNil)))))
def f_renamed : Sm := (sSeq (sDrop (xCall m_check_grouping (xCons (xVar 0) xNil))) (sSeq (sIf (xOr (xNot (xT (x1 (kIsi "tuple") (xVar 1)))) (xNot (xT (xCall kAll (xCons (xLc [2] (.nm 2) (xIt asS (xVar 1)) xYes (xCall m_is_int (xCons (xVar 2) (xCons (xC (.int 0)) (xCons (x2 kSub (xCall kLen (xCons (xVar 0) xNil)) (xC (.int 1))) xNil))))) xNil))))) (sErr "BadNumber") sNx) (sSeq (sIf (xT (x2 kNe (xCall kSortI (xCons (xVar 1) xNil)) (x1 kLstRg (xCall kLen (xCons (xVar 0) xNil))))) (sErr "BadNumber") sNx) (sRet (xCall m_numbered (xCons (xLc [2] (.nm 2) (xIt asS (xVar 1)) xYes (x2 kIx (xVar 0) (xVar 2))) xNil))))))
def m_renamed : List D → M D := runF 3 f_renamed
theorem pu_m_renamed : ∀ ds : List D, Pu (m_renamed ds) := pu_runF (b := f_renamed) (pus_seq (pus_drop (pu_xCall pu_m_check_grouping (pu_xCons pu_xVar pu_xNil))) (pus_seq (pus_if (pu_xOr (pu_xNot (pu_xT (pu_x1 (pu_kIsi "tuple") pu_xVar))) (pu_xNot (pu_xT (pu_xCall pu_kAll (pu_xCons (pu_xLc (pu_xIt pu_asS pu_xVar) pu_xYes (pu_xCall pu_m_is_int (pu_xCons pu_xVar (pu_xCons pu_xC (pu_xCons (pu_x2 pu_kSub (pu_xCall pu_kLen (pu_xCons pu_xVar pu_xNil)) pu_xC) pu_xNil))))) pu_xNil))))) pus_err pus_nx) (pus_seq (pus_if (pu_xT (pu_x2 pu_kNe (pu_xCall pu_kSortI (pu_xCons pu_xVar pu_xNil)) (pu_x1 pu_kLstRg (pu_xCall pu_kLen (pu_xCons pu_xVar pu_xNil))))) pus_err pus_nx) (pus_ret (pu_xCall pu_m_numbered (pu_xCons (pu_xLc (pu_xIt pu_asS pu_xVar) pu_xYes (pu_x2 pu_kIx pu_xVar pu_xVar)) pu_xNil))))))
def f_limited : Sm := (sSeq (sDrop (xCall m_check_grouping (xCons (xVar 0) xNil))) (sSeq (sIf (xOr (xNot (xT (x1 (kIsi "list") (xVar 1)))) (xNot (xT (xCall kAll (xCons (xLc [2] (.nm 2) (xIt asL (xVar 1)) xYes (xCall m_is_int (xCons (xVar 2) (xCons (xC (.int 0)) (xCons (x2 kSub (xCall kLen (xCons (xVar 0) xNil)) (xC (.int 1))) xNil))))) xNil))))) (sErr "BadNumber") sNx) (sSeq (sIf (xOr (xT (x2 kEq (xVar 1) (xLst xNil))) (xT (x2 kNe (x1 kLenSet (xVar 1)) (xCall kLen (xCons (xVar 1) xNil))))) (sErr "BadNumber") sNx) (sRet (xCall m_numbered (xCons (xLc [2] (.nm 2) (xIt asL (xVar 1)) xYes (x2 kIx (xVar 0) (xVar 2))) xNil))))))
def m_limited : List D → M D := runF 3 f_limited
theorem pu_m_limited : ∀ ds : List D, Pu (m_limited ds) := pu_runF (b := f_limited) (pus_seq (pus_drop (pu_xCall pu_m_check_grouping (pu_xCons pu_xVar pu_xNil))) (pus_seq (pus_if (pu_xOr (pu_xNot (pu_xT (pu_x1 (pu_kIsi "list") pu_xVar))) (pu_xNot (pu_xT (pu_xCall pu_kAll (pu_xCons (pu_xLc (pu_xIt pu_asL pu_xVar) pu_xYes (pu_xCall pu_m_is_int (pu_xCons pu_xVar (pu_xCons pu_xC (pu_xCons (pu_x2 pu_kSub (pu_xCall pu_kLen (pu_xCons pu_xVar pu_xNil)) pu_xC) pu_xNil))))) pu_xNil))))) pus_err pus_nx) (pus_seq (pus_if (pu_xOr (pu_xT (pu_x2 pu_kEq pu_xVar (pu_xLst pu_xNil))) (pu_xT (pu_x2 pu_kNe (pu_x1 pu_kLenSet pu_xVar) (pu_xCall pu_kLen (pu_xCons pu_xVar pu_xNil))))) pus_err pus_nx) (pus_ret (pu_xCall pu_m_numbered (pu_xCons (pu_xLc (pu_xIt pu_asL pu_xVar) pu_xYes (pu_x2 pu_kIx pu_xVar pu_xVar)) pu_xNil))))))
def f_replaced : Sm := (sSeq (sDrop (xCall m_check_grouping (xCons (xVar 0) xNil))) (sSeq (sDrop (xCall m_check_grouping (xCons (xVar 1) xNil))) (sSeq (sIf (xT (x2 kNe (xCall kLen (xCons (xVar 1) xNil)) (x2 kAdd (xCall kMax (xCons (xVar 0) xNil)) (xC (.int 1))))) (sErr "BadGrouping") sNx) (sRet (xCall m_numbered (xCons (xLc [2] (.nm 2) (xIt asL (xVar 0)) xYes (x2 kIx (xVar 1) (xVar 2))) xNil))))))
def m_replaced : List D → M D := runF 3 f_replaced
theorem pu_m_replaced : ∀ ds : List D, Pu (m_replaced ds) := pu_runF (b := f_replaced) (pus_seq (pus_drop (pu_xCall pu_m_check_grouping (pu_xCons pu_xVar pu_xNil))) (pus_seq (pus_drop (pu_xCall pu_m_check_grouping (pu_xCons pu_xVar pu_xNil))) (pus_seq (pus_if (pu_xT (pu_x2 pu_kNe (pu_xCall pu_kLen (pu_xCons pu_xVar pu_xNil)) (pu_x2 pu_kAdd (pu_xCall pu_kMax (pu_xCons pu_xVar pu_xNil)) pu_xC))) pus_err pus_nx) (pus_ret (pu_xCall pu_m_numbered (pu_xCons (pu_xLc (pu_xIt pu_asL pu_xVar) pu_xYes (pu_x2 pu_kIx pu_xVar pu_xVar)) pu_xNil))))))
def f__law_three : Sm := (sRet (xLst (xCons (xCall m_pair_distance (xCons (xVar 0) (xCons (xVar 1) xNil))) (xCons (xCall m_count_moves (xCons (xVar 0) (xCons (xVar 1) xNil))) (xCons (xCall m_count_steps (xCons (xVar 0) (xCons (xVar 1) xNil))) xNil)))))
def m__law_three : List D → M D := runF 2 f__law_three
theorem pu_m__law_three : ∀ ds : List D, Pu (m__law_three ds) := pu_runF (b := f__law_three) (pus_ret (pu_xLst (pu_xCons (pu_xCall pu_m_pair_distance (pu_xCons pu_xVar (pu_xCons pu_xVar pu_xNil))) (pu_xCons (pu_xCall pu_m_count_moves (pu_xCons pu_xVar (pu_xCons pu_xVar pu_xNil))) (pu_xCons (pu_xCall pu_m_count_steps (pu_xCons pu_xVar (pu_xCons pu_xVar pu_xNil))) pu_xNil)))))
def f__law_beside : Sm := (sSeq (sSet 1 (x2 kAdd (xC (.int 1)) (xCall m__law_draw (xCons (xVar 0) (xCons (xC (.int 6)) xNil))))) (sSeq (sSet 2 (x2 kAdd (xC (.int 1)) (xCall m__law_draw (xCons (xVar 0) (xCons (x2 kSub (xC (.int 7)) (xVar 1)) xNil))))) (sSeq (sTgt (.tp [3, 4]) (xTup (xCons (xCall m__law_grouping (xCons (xVar 0) (xCons (xVar 1) xNil))) (xCons (xCall m__law_grouping (xCons (xVar 0) (xCons (xVar 1) xNil))) xNil)))) (sSeq (sPar 5 6 (xCons (xCall m__law_grouping (xCons (xVar 0) (xCons (xVar 2) xNil))) (xCons (xCall m__law_grouping (xCons (xVar 0) (xCons (xVar 2) xNil))) xNil))) (sSeq (sPar 7 8 (xCons (xCall m_side_by_side (xCons (xVar 3) (xCons (xVar 5) xNil))) (xCons (xCall m_side_by_side (xCons (xVar 4) (xCons (xVar 6) xNil))) xNil))) (sSeq (sIf (xOr (xT (x2 kNe (xVar 7) (x2 kAdd (xVar 3) (xLc [9] (.nm 9) (xIt asL (xVar 5)) xYes (x2 kAdd (x2 kAdd (xCall kMax (xCons (xVar 3) xNil)) (xC (.int 1))) (xVar 9)))))) (xT (x2 kNe (xVar 8) (x2 kAdd (xVar 4) (xLc [9] (.nm 9) (xIt asL (xVar 6)) xYes (x2 kAdd (x2 kAdd (xCall kMax (xCons (xVar 4) xNil)) (xC (.int 1))) (xVar 9))))))) (sRet (xC (.bool false))) sNx) (sRet (x2 kEq (xCall m__law_three (xCons (xVar 7) (xCons (xVar 8) xNil))) (xLc [10, 11] (.tp [10, 11]) (fun ρ => M.bind ((xCons (xCall m__law_three (xCons (xVar 3) (xCons (xVar 4) xNil))) (xCons (xCall m__law_three (xCons (xVar 5) (xCons (xVar 6) xNil))) xNil)) ρ) kZip) xYes (x2 kAdd (xVar 10) (xVar 11)))))))))))
def m__law_beside : List D → M D := runF 12 f__law_beside
-- _law_beside draws (m__law_draw)
def f_Sorter_init : Sm := (sSeq (sPutF "labels" (xVar 0) (xLst xNil)) (sPutF "past" (xVar 0) (xShr (xLst xNil))))
def m_Sorter_init : List D → M D := runF 1 f_Sorter_init
-- Sorter_init draws (sPutF)
def f_Sorter_count : Sm := (sRet (x2 kAdd (xCall kMax (xCons (x2 kAdd (xLst (xCons (x1 kNeg (xC (.int 1))) xNil)) (x1 (kFld "labels") (xVar 0))) xNil)) (xC (.int 1))))
def m_Sorter_count : List D → M D := runF 1 f_Sorter_count
-- Sorter_count draws (['kFld', '"labels"'])
def f_Sorter_put : Sm := (sSeq (sIf (xT (x2 kEq (xCall kLen (xCons (x1 (kFld "labels") (xVar 0)) xNil)) (xC (.int 7)))) (sErr "BadNumber") sNx) (sSeq (sIf (xNot (xT (xCall m_is_int (xCons (xVar 1) (xCons (xC (.int 0)) (xCons (xMc0 "count" m_Sorter_count (xVar 0)) xNil)))))) (sErr "BadNumber") sNx) (sSeq (sAppH (x1 (kFld "past") (xVar 0)) (xCall kList (xCons (x1 (kFld "labels") (xVar 0)) xNil))) (sSeq (sPutF "labels" (xVar 0) (x2 kAdd (x1 (kFld "labels") (xVar 0)) (xLst (xCons (xVar 1) xNil)))) (sRet (xMeth "list" kCount (x1 (kFld "labels") (xVar 0)) (xCons (xVar 1) xNil)))))))
def m_Sorter_put : List D → M D := runF 2 f_Sorter_put
-- Sorter_put draws (['kFld', '"labels"'])
def f_Sorter_join : Sm := (sSeq (sIf (xOr (xNot (xT (xCall m_is_int (xCons (xVar 1) (xCons (xC (.int 0)) (xCons (x2 kSub (xMc0 "count" m_Sorter_count (xVar 0)) (xC (.int 1))) xNil)))))) (xOr (xNot (xT (xCall m_is_int (xCons (xVar 2) (xCons (xC (.int 0)) (xCons (x2 kSub (xMc0 "count" m_Sorter_count (xVar 0)) (xC (.int 1))) xNil)))))) (xT (x2 kEq (xVar 1) (xVar 2))))) (sErr "BadNumber") sNx) (sSeq (sAppH (x1 (kFld "past") (xVar 0)) (xCall kList (xCons (x1 (kFld "labels") (xVar 0)) xNil))) (sSeq (sSet 3 (x2 kAdd (xMeth "list" kCount (x1 (kFld "labels") (xVar 0)) (xCons (xVar 1) xNil)) (xMeth "list" kCount (x1 (kFld "labels") (xVar 0)) (xCons (xVar 2) xNil)))) (sSeq (sPutF "labels" (xVar 0) (xCall m_numbered (xCons (xLc [4] (.nm 4) (xIt asL (x1 (kFld "labels") (xVar 0))) xYes (xIf (xT (x2 kEq (xVar 4) (xVar 2))) (xVar 1) (xVar 4))) xNil))) (sRet (xVar 3))))))
def m_Sorter_join : List D → M D := runF 5 f_Sorter_join
-- Sorter_join draws (xMc0)
def f_Sorter_grouping : Sm := (sRet (xCall kList (xCons (x1 (kFld "labels") (xVar 0)) xNil)))
def m_Sorter_grouping : List D → M D := runF 1 f_Sorter_grouping
-- Sorter_grouping draws (['kFld', '"labels"'])
def f_Sorter_len : Sm := (sRet (xCall kLen (xCons (x1 (kFld "labels") (xVar 0)) xNil)))
def m_Sorter_len : List D → M D := runF 1 f_Sorter_len
-- Sorter_len draws (['kFld', '"labels"'])
def f_check_text : Sm := (sIf (xNot (xT (x1 (kIsi "str") (xVar 0)))) (sErr "BadText") sNx)
def m_check_text : List D → M D := runF 1 f_check_text
theorem pu_m_check_text : ∀ ds : List D, Pu (m_check_text ds) := pu_runF (b := f_check_text) (pus_if (pu_xNot (pu_xT (pu_x1 (pu_kIsi "str") pu_xVar))) pus_err pus_nx)
def f_format_grouping : Sm := (sSeq (sDrop (xCall m_check_grouping (xCons (xVar 0) xNil))) (sRet (xMeth "str" kJoin (xC (.str "")) (xCons (xLc [1] (.nm 1) (xIt asL (xVar 0)) xYes (xCall kStr (xCons (xVar 1) xNil))) xNil))))
def m_format_grouping : List D → M D := runF 2 f_format_grouping
theorem pu_m_format_grouping : ∀ ds : List D, Pu (m_format_grouping ds) := pu_runF (b := f_format_grouping) (pus_seq (pus_drop (pu_xCall pu_m_check_grouping (pu_xCons pu_xVar pu_xNil))) (pus_ret (pu_xMeth pu_kJoin pu_xC (pu_xCons (pu_xLc (pu_xIt pu_asL pu_xVar) pu_xYes (pu_xCall pu_kStr (pu_xCons pu_xVar pu_xNil))) pu_xNil))))
def f_parse_grouping : Sm := (sSeq (sDrop (xCall m_check_text (xCons (xVar 0) xNil))) (sSeq (sIf (xNot (xT (xCall kAll (xCons (xLc [2] (.nm 2) (xIt asC (xVar 0)) xYes (x2 kIn (xVar 2) (xC (.str "0123456789")))) xNil)))) (sErr "BadText") sNx) (sSeq (sSet 1 (xLc [2] (.nm 2) (xIt asC (xVar 0)) xYes (xCall kInt (xCons (xVar 2) xNil)))) (sSeq (sIf (xNot (xT (xCall m_is_grouping (xCons (xVar 1) xNil)))) (sErr "BadText") sNx) (sRet (xVar 1))))))
def m_parse_grouping : List D → M D := runF 3 f_parse_grouping
theorem pu_m_parse_grouping : ∀ ds : List D, Pu (m_parse_grouping ds) := pu_runF (b := f_parse_grouping) (pus_seq (pus_drop (pu_xCall pu_m_check_text (pu_xCons pu_xVar pu_xNil))) (pus_seq (pus_if (pu_xNot (pu_xT (pu_xCall pu_kAll (pu_xCons (pu_xLc (pu_xIt pu_asC pu_xVar) pu_xYes (pu_x2 pu_kIn pu_xVar pu_xC)) pu_xNil)))) pus_err pus_nx) (pus_seq (pus_set (pu_xLc (pu_xIt pu_asC pu_xVar) pu_xYes (pu_xCall pu_kInt (pu_xCons pu_xVar pu_xNil)))) (pus_seq (pus_if (pu_xNot (pu_xT (pu_xCall pu_m_is_grouping (pu_xCons pu_xVar pu_xNil)))) pus_err pus_nx) (pus_ret pu_xVar)))))
def f_format_groups : Sm := (sSeq (sDrop (xCall m_check_grouping (xCons (xVar 0) xNil))) (sRet (xMeth "str" kJoin (xC (.str "|")) (xCons (xLc [1] (.nm 1) (xIt asL (xCall m_groups_of (xCons (xVar 0) xNil))) xYes (xMeth "str" kJoin (xC (.str "")) (xCons (xLc [2] (.nm 2) (xIt asL (xVar 1)) xYes (xCall kStr (xCons (xVar 2) xNil))) xNil))) xNil))))
def m_format_groups : List D → M D := runF 3 f_format_groups
theorem pu_m_format_groups : ∀ ds : List D, Pu (m_format_groups ds) := pu_runF (b := f_format_groups) (pus_seq (pus_drop (pu_xCall pu_m_check_grouping (pu_xCons pu_xVar pu_xNil))) (pus_ret (pu_xMeth pu_kJoin pu_xC (pu_xCons (pu_xLc (pu_xIt pu_asL (pu_xCall pu_m_groups_of (pu_xCons pu_xVar pu_xNil))) pu_xYes (pu_xMeth pu_kJoin pu_xC (pu_xCons (pu_xLc (pu_xIt pu_asL pu_xVar) pu_xYes (pu_xCall pu_kStr (pu_xCons pu_xVar pu_xNil))) pu_xNil))) pu_xNil))))
def f_parse_groups : Sm := (sSeq (sDrop (xCall m_check_text (xCons (xVar 0) xNil))) (sSeq (sSet 1 (xMeth "str" kSplit (xVar 0) (xCons (xC (.str "|")) xNil))) (sSeq (sIf (xNot (xT (xCall kAll (xCons (xLc [4] (.nm 4) (xIt asL (xVar 1)) xYes (xAndV (x2 kNe (xVar 4) (xC (.str ""))) (xCall kAll (xCons (xLc [5] (.nm 5) (xIt asC (xVar 4)) xYes (x2 kIn (xVar 5) (xC (.str "0123456789")))) xNil)))) xNil)))) (sErr "BadText") sNx) (sSeq (sSet 2 (xLc [4] (.nm 4) (xIt asL (xVar 1)) xYes (xLc [5] (.nm 5) (xIt asC (xVar 4)) xYes (xCall kInt (xCons (xVar 5) xNil))))) (sSeq (sSet 3 (xC .none)) (sSeq (sTryO errs (sSet 3 (xCall m_grouping_of (xCons (xVar 2) xNil))) (sSet 3 (xC .none))) (sSeq (sIf (xOr (xT (x2 kIs (xVar 3) (xC .none))) (xT (x2 kNe (xCall m_groups_of (xCons (xVar 3) xNil)) (xVar 2)))) (sErr "BadText") sNx) (sRet (xVar 3)))))))))
def m_parse_groups : List D → M D := runF 6 f_parse_groups
theorem pu_m_parse_groups : ∀ ds : List D, Pu (m_parse_groups ds) := pu_runF (b := f_parse_groups) (pus_seq (pus_drop (pu_xCall pu_m_check_text (pu_xCons pu_xVar pu_xNil))) (pus_seq (pus_set (pu_xMeth pu_kSplit pu_xVar (pu_xCons pu_xC pu_xNil))) (pus_seq (pus_if (pu_xNot (pu_xT (pu_xCall pu_kAll (pu_xCons (pu_xLc (pu_xIt pu_asL pu_xVar) pu_xYes (pu_xAndV (pu_x2 pu_kNe pu_xVar pu_xC) (pu_xCall pu_kAll (pu_xCons (pu_xLc (pu_xIt pu_asC pu_xVar) pu_xYes (pu_x2 pu_kIn pu_xVar pu_xC)) pu_xNil)))) pu_xNil)))) pus_err pus_nx) (pus_seq (pus_set (pu_xLc (pu_xIt pu_asL pu_xVar) pu_xYes (pu_xLc (pu_xIt pu_asC pu_xVar) pu_xYes (pu_xCall pu_kInt (pu_xCons pu_xVar pu_xNil))))) (pus_seq (pus_set pu_xC) (pus_seq (pus_tryO (pus_set (pu_xCall pu_m_grouping_of (pu_xCons pu_xVar pu_xNil))) (pus_set pu_xC)) (pus_seq (pus_if (pu_xOr (pu_xT (pu_x2 pu_kIs pu_xVar pu_xC)) (pu_xT (pu_x2 pu_kNe (pu_xCall pu_m_groups_of (pu_xCons pu_xVar pu_xNil)) pu_xVar))) pus_err pus_nx) (pus_ret pu_xVar))))))))
def f__law_written : Sm := (sSeq (sIf (xT (x2 kEq (xVar 0) (xC (.int 0)))) (sRet (xMeth "str" kJoin (xC (.str "")) (xCons (xLc [2] (.nm 2) (xIt asL (xVar 1)) xYes (xCall kStr (xCons (xVar 2) xNil))) xNil))) sNx) (sRet (xMeth "str" kJoin (xC (.str "|")) (xCons (xLc [3] (.nm 3) (xIt asL (xCall m__law_groups (xCons (xVar 1) xNil))) xYes (xMeth "str" kJoin (xC (.str "")) (xCons (xLc [4] (.nm 4) (xIt asL (xVar 3)) xYes (xCall kStr (xCons (xVar 4) xNil))) xNil))) xNil))))
def m__law_written : List D → M D := runF 5 f__law_written
theorem pu_m__law_written : ∀ ds : List D, Pu (m__law_written ds) := pu_runF (b := f__law_written) (pus_seq (pus_if (pu_xT (pu_x2 pu_kEq pu_xVar pu_xC)) (pus_ret (pu_xMeth pu_kJoin pu_xC (pu_xCons (pu_xLc (pu_xIt pu_asL pu_xVar) pu_xYes (pu_xCall pu_kStr (pu_xCons pu_xVar pu_xNil))) pu_xNil))) pus_nx) (pus_ret (pu_xMeth pu_kJoin pu_xC (pu_xCons (pu_xLc (pu_xIt pu_asL (pu_xCall pu_m__law_groups (pu_xCons pu_xVar pu_xNil))) pu_xYes (pu_xMeth pu_kJoin pu_xC (pu_xCons (pu_xLc (pu_xIt pu_asL pu_xVar) pu_xYes (pu_xCall pu_kStr (pu_xCons pu_xVar pu_xNil))) pu_xNil))) pu_xNil))))
def f__law_parsed : Sm := (sSeq (sSet 2 (xC .none)) (sSeq (sSet 3 (xC .none)) (sSeq (sTry 4 errs (sSet 2 (xIf (xT (x2 kEq (xVar 0) (xC (.int 0)))) (xCall m_parse_grouping (xCons (xVar 1) xNil)) (xCall m_parse_groups (xCons (xVar 1) xNil)))) (sSet 3 (xVar 4))) (sRet (xIf (xT (x2 kIs (xVar 3) (xC .none))) (xVar 2) (xCall m__law_error (xCons (xVar 3) xNil)))))))
def m__law_parsed : List D → M D := runF 5 f__law_parsed
theorem pu_m__law_parsed : ∀ ds : List D, Pu (m__law_parsed ds) := pu_runF (b := f__law_parsed) (pus_seq (pus_set pu_xC) (pus_seq (pus_set pu_xC) (pus_seq (pus_try (pus_set (pu_xIf (pu_xT (pu_x2 pu_kEq pu_xVar pu_xC)) (pu_xCall pu_m_parse_grouping (pu_xCons pu_xVar pu_xNil)) (pu_xCall pu_m_parse_groups (pu_xCons pu_xVar pu_xNil)))) (pus_set pu_xVar)) (pus_ret (pu_xIf (pu_xT (pu_x2 pu_kIs pu_xVar pu_xC)) pu_xVar (pu_xCall pu_m__law_error (pu_xCons pu_xVar pu_xNil)))))))
def f__law_rejected : Sm := (sSeq (sSet 0 (xLst (xCons (xC .none) (xCons (xC (.int 5)) (xCons (xC (.str "")) (xCons (xC (.str " ")) (xCons (xC (.str "1")) (xCons (xC (.str "02")) (xCons (xC (.str "0 1")) (xCons (xC (.str "0,1")) (xCons (xC (.str "a")) (xCons (xC (.str "-0")) (xCons (xC (.str "00000000")) (xCons (xC (.str "0.")) (xCons (xLst (xCons (xC (.str "0")) xNil)) xNil))))))))))))))) (sSeq (sIf (xOr (xT (x2 kNe (xLc [1] (.nm 1) (xIt asL (xVar 0)) xYes (xCall m__law_parsed (xCons (xC (.int 0)) (xCons (xVar 1) xNil)))) (x2 kMul (xLst (xCons (xC (.str "text")) xNil)) (xC (.int 13))))) (xT (x2 kNe (xCall m__law_parsed (xCons (xC (.int 0)) (xCons (xC (.str "0123456")) xNil))) (xLst (xCons (xC (.int 0)) (xCons (xC (.int 1)) (xCons (xC (.int 2)) (xCons (xC (.int 3)) (xCons (xC (.int 4)) (xCons (xC (.int 5)) (xCons (xC (.int 6)) xNil))))))))))) (sRet (xC (.bool false))) sNx) (sSeq (sSet 0 (xLst (xCons (xC .none) (xCons (xC (.int 5)) (xCons (xC (.str "")) (xCons (xC (.str "|")) (xCons (xC (.str "0|")) (xCons (xC (.str "|0")) (xCons (xC (.str "1|0")) (xCons (xC (.str "10")) (xCons (xC (.str "0||1")) (xCons (xC (.str "02")) (xCons (xC (.str "0|2")) (xCons (xC (.str "00")) (xCons (xC (.str "0|0")) (xCons (xC (.str "0 |1")) (xCons (xC (.str "a")) (xCons (xC (.str "12|0")) (xCons (xC (.str "01234567")) (xCons (xC (.str "0-1")) xNil)))))))))))))))))))) (sRet (xAndV (x2 kEq (xLc [1] (.nm 1) (xIt asL (xVar 0)) xYes (xCall m__law_parsed (xCons (xC (.int 1)) (xCons (xVar 1) xNil)))) (x2 kMul (xLst (xCons (xC (.str "text")) xNil)) (xC (.int 18)))) (xAndV (x2 kEq (xCall m__law_parsed (xCons (xC (.int 1)) (xCons (xC (.str "02|1")) xNil))) (xLst (xCons (xC (.int 0)) (xCons (xC (.int 1)) (xCons (xC (.int 0)) xNil))))) (x2 kEq (xCall m__law_parsed (xCons (xC (.int 1)) (xCons (xC (.str "0123456")) xNil))) (x2 kMul (xLst (xCons (xC (.int 0)) xNil)) (xC (.int 7))))))))))
def m__law_rejected : List D → M D := runF 2 f__law_rejected
theorem pu_m__law_rejected : ∀ ds : List D, Pu (m__law_rejected ds) := pu_runF (b := f__law_rejected) (pus_seq (pus_set (pu_xLst (pu_xCons pu_xC (pu_xCons pu_xC (pu_xCons pu_xC (pu_xCons pu_xC (pu_xCons pu_xC (pu_xCons pu_xC (pu_xCons pu_xC (pu_xCons pu_xC (pu_xCons pu_xC (pu_xCons pu_xC (pu_xCons pu_xC (pu_xCons pu_xC (pu_xCons (pu_xLst (pu_xCons pu_xC pu_xNil)) pu_xNil))))))))))))))) (pus_seq (pus_if (pu_xOr (pu_xT (pu_x2 pu_kNe (pu_xLc (pu_xIt pu_asL pu_xVar) pu_xYes (pu_xCall pu_m__law_parsed (pu_xCons pu_xC (pu_xCons pu_xVar pu_xNil)))) (pu_x2 pu_kMul (pu_xLst (pu_xCons pu_xC pu_xNil)) pu_xC))) (pu_xT (pu_x2 pu_kNe (pu_xCall pu_m__law_parsed (pu_xCons pu_xC (pu_xCons pu_xC pu_xNil))) (pu_xLst (pu_xCons pu_xC (pu_xCons pu_xC (pu_xCons pu_xC (pu_xCons pu_xC (pu_xCons pu_xC (pu_xCons pu_xC (pu_xCons pu_xC pu_xNil))))))))))) (pus_ret pu_xC) pus_nx) (pus_seq (pus_set (pu_xLst (pu_xCons pu_xC (pu_xCons pu_xC (pu_xCons pu_xC (pu_xCons pu_xC (pu_xCons pu_xC (pu_xCons pu_xC (pu_xCons pu_xC (pu_xCons pu_xC (pu_xCons pu_xC (pu_xCons pu_xC (pu_xCons pu_xC (pu_xCons pu_xC (pu_xCons pu_xC (pu_xCons pu_xC (pu_xCons pu_xC (pu_xCons pu_xC (pu_xCons pu_xC (pu_xCons pu_xC pu_xNil)))))))))))))))))))) (pus_ret (pu_xAndV (pu_x2 pu_kEq (pu_xLc (pu_xIt pu_asL pu_xVar) pu_xYes (pu_xCall pu_m__law_parsed (pu_xCons pu_xC (pu_xCons pu_xVar pu_xNil)))) (pu_x2 pu_kMul (pu_xLst (pu_xCons pu_xC pu_xNil)) pu_xC)) (pu_xAndV (pu_x2 pu_kEq (pu_xCall pu_m__law_parsed (pu_xCons pu_xC (pu_xCons pu_xC pu_xNil))) (pu_xLst (pu_xCons pu_xC (pu_xCons pu_xC (pu_xCons pu_xC pu_xNil))))) (pu_x2 pu_kEq (pu_xCall pu_m__law_parsed (pu_xCons pu_xC (pu_xCons pu_xC pu_xNil))) (pu_x2 pu_kMul (pu_xLst (pu_xCons pu_xC pu_xNil)) pu_xC))))))))
def b__wall_1 : Sm := sNx
def f__wall : Sm := (sWhile (xT (xC (.bool true))) b__wall_1)
def m__wall : List D → M D := runF 1 f__wall
theorem pu_m__wall : ∀ ds : List D, Pu (m__wall ds) := pu_runF (b := f__wall) (pus_while (pu_xT pu_xC) pus_nx)
def f__law_one : Sm := (sSeq (sIf (xT (x2 kEq (xVar 0) (xC (.int 0)))) (sRet (xCall m_groups (xCons (xVar 1) xNil))) sNx) (sSeq (sIf (xT (x2 kEq (xVar 0) (xC (.int 1)))) (sRet (xCall m_count_groups (xCons (xVar 1) xNil))) sNx) (sSeq (sIf (xT (x2 kEq (xVar 0) (xC (.int 2)))) (sRet (xCall m_group_sizes (xCons (xVar 1) xNil))) sNx) (sSeq (sIf (xT (x2 kEq (xVar 0) (xC (.int 3)))) (sRet (xCall m_group_with (xCons (xVar 1) (xCons (xC .none) xNil)))) sNx) (sSeq (sIf (xT (x2 kEq (xVar 0) (xC (.int 4)))) (sRet (xCall m_pairs_together (xCons (xVar 1) xNil))) sNx) (sSeq (sIf (xT (x2 kEq (xVar 0) (xC (.int 5)))) (sRet (xCall m_all_joinings (xCons (xVar 1) xNil))) sNx) (sSeq (sIf (xT (x2 kEq (xVar 0) (xC (.int 6)))) (sRet (xCall m_all_divisions (xCons (xVar 1) xNil))) sNx) (sSeq (sIf (xT (x2 kEq (xVar 0) (xC (.int 7)))) (sRet (xCall m_near (xCons (xVar 1) (xCons (xC .none) xNil)))) sNx) (sSeq (sIf (xT (x2 kEq (xVar 0) (xC (.int 8)))) (sRet (xCall m_nearest_with (xCons (xVar 1) (xCons (xC .none) xNil)))) sNx) (sSeq (sIf (xT (x2 kEq (xVar 0) (xC (.int 9)))) (sRet (xCall m_rank_of (xCons (xVar 1) xNil))) sNx) (sSeq (sIf (xT (x2 kEq (xVar 0) (xC (.int 10)))) (sRet (xCall m_without_thing (xCons (xVar 1) (xCons (xC .none) xNil)))) sNx) (sSeq (sIf (xT (x2 kEq (xVar 0) (xC (.int 11)))) (sRet (xCall m_with_thing (xCons (xVar 1) (xCons (xC .none) xNil)))) sNx) (sSeq (sIf (xT (x2 kEq (xVar 0) (xC (.int 12)))) (sRet (xCall m_renamed (xCons (xVar 1) (xCons (xC .none) xNil)))) sNx) (sSeq (sIf (xT (x2 kEq (xVar 0) (xC (.int 13)))) (sRet (xCall m_limited (xCons (xVar 1) (xCons (xC .none) xNil)))) sNx) (sSeq (sIf (xT (x2 kEq (xVar 0) (xC (.int 14)))) (sRet (xCall m_format_grouping (xCons (xVar 1) xNil))) sNx) (sSeq (sIf (xT (x2 kEq (xVar 0) (xC (.int 15)))) (sRet (xCall m_format_groups (xCons (xVar 1) xNil))) sNx) (sRet (xIf (xT (x2 kEq (xVar 0) (xC (.int 16)))) (xCall m_put_into (xCons (xVar 1) (xCons (xC .none) (xCons (xC .none) xNil)))) (xCall m_joined_groups (xCons (xVar 1) (xCons (xC .none) (xCons (xC .none) xNil))))))))))))))))))))))
def m__law_one : List D → M D := runF 2 f__law_one
theorem pu_m__law_one : ∀ ds : List D, Pu (m__law_one ds) := pu_runF (b := f__law_one) (pus_seq (pus_if (pu_xT (pu_x2 pu_kEq pu_xVar pu_xC)) (pus_ret (pu_xCall pu_m_groups (pu_xCons pu_xVar pu_xNil))) pus_nx) (pus_seq (pus_if (pu_xT (pu_x2 pu_kEq pu_xVar pu_xC)) (pus_ret (pu_xCall pu_m_count_groups (pu_xCons pu_xVar pu_xNil))) pus_nx) (pus_seq (pus_if (pu_xT (pu_x2 pu_kEq pu_xVar pu_xC)) (pus_ret (pu_xCall pu_m_group_sizes (pu_xCons pu_xVar pu_xNil))) pus_nx) (pus_seq (pus_if (pu_xT (pu_x2 pu_kEq pu_xVar pu_xC)) (pus_ret (pu_xCall pu_m_group_with (pu_xCons pu_xVar (pu_xCons pu_xC pu_xNil)))) pus_nx) (pus_seq (pus_if (pu_xT (pu_x2 pu_kEq pu_xVar pu_xC)) (pus_ret (pu_xCall pu_m_pairs_together (pu_xCons pu_xVar pu_xNil))) pus_nx) (pus_seq (pus_if (pu_xT (pu_x2 pu_kEq pu_xVar pu_xC)) (pus_ret (pu_xCall pu_m_all_joinings (pu_xCons pu_xVar pu_xNil))) pus_nx) (pus_seq (pus_if (pu_xT (pu_x2 pu_kEq pu_xVar pu_xC)) (pus_ret (pu_xCall pu_m_all_divisions (pu_xCons pu_xVar pu_xNil))) pus_nx) (pus_seq (pus_if (pu_xT (pu_x2 pu_kEq pu_xVar pu_xC)) (pus_ret (pu_xCall pu_m_near (pu_xCons pu_xVar (pu_xCons pu_xC pu_xNil)))) pus_nx) (pus_seq (pus_if (pu_xT (pu_x2 pu_kEq pu_xVar pu_xC)) (pus_ret (pu_xCall pu_m_nearest_with (pu_xCons pu_xVar (pu_xCons pu_xC pu_xNil)))) pus_nx) (pus_seq (pus_if (pu_xT (pu_x2 pu_kEq pu_xVar pu_xC)) (pus_ret (pu_xCall pu_m_rank_of (pu_xCons pu_xVar pu_xNil))) pus_nx) (pus_seq (pus_if (pu_xT (pu_x2 pu_kEq pu_xVar pu_xC)) (pus_ret (pu_xCall pu_m_without_thing (pu_xCons pu_xVar (pu_xCons pu_xC pu_xNil)))) pus_nx) (pus_seq (pus_if (pu_xT (pu_x2 pu_kEq pu_xVar pu_xC)) (pus_ret (pu_xCall pu_m_with_thing (pu_xCons pu_xVar (pu_xCons pu_xC pu_xNil)))) pus_nx) (pus_seq (pus_if (pu_xT (pu_x2 pu_kEq pu_xVar pu_xC)) (pus_ret (pu_xCall pu_m_renamed (pu_xCons pu_xVar (pu_xCons pu_xC pu_xNil)))) pus_nx) (pus_seq (pus_if (pu_xT (pu_x2 pu_kEq pu_xVar pu_xC)) (pus_ret (pu_xCall pu_m_limited (pu_xCons pu_xVar (pu_xCons pu_xC pu_xNil)))) pus_nx) (pus_seq (pus_if (pu_xT (pu_x2 pu_kEq pu_xVar pu_xC)) (pus_ret (pu_xCall pu_m_format_grouping (pu_xCons pu_xVar pu_xNil))) pus_nx) (pus_seq (pus_if (pu_xT (pu_x2 pu_kEq pu_xVar pu_xC)) (pus_ret (pu_xCall pu_m_format_groups (pu_xCons pu_xVar pu_xNil))) pus_nx) (pus_ret (pu_xIf (pu_xT (pu_x2 pu_kEq pu_xVar pu_xC)) (pu_xCall pu_m_put_into (pu_xCons pu_xVar (pu_xCons pu_xC (pu_xCons pu_xC pu_xNil)))) (pu_xCall pu_m_joined_groups (pu_xCons pu_xVar (pu_xCons pu_xC (pu_xCons pu_xC pu_xNil))))))))))))))))))))))
def f__law_two : Sm := (sSeq (sIf (xT (x2 kEq (xVar 0) (xC (.int 0)))) (sRet (xCall m_pair_counts (xCons (xVar 1) (xCons (xVar 2) xNil)))) sNx) (sSeq (sIf (xT (x2 kEq (xVar 0) (xC (.int 1)))) (sRet (xCall m_unlike_pairs (xCons (xVar 1) (xCons (xVar 2) xNil)))) sNx) (sSeq (sIf (xT (x2 kEq (xVar 0) (xC (.int 2)))) (sRet (xCall m_pair_distance (xCons (xVar 1) (xCons (xVar 2) xNil)))) sNx) (sSeq (sIf (xT (x2 kEq (xVar 0) (xC (.int 3)))) (sRet (xCall m_agreement (xCons (xVar 1) (xCons (xVar 2) xNil)))) sNx) (sSeq (sIf (xT (x2 kEq (xVar 0) (xC (.int 4)))) (sRet (xCall m_shared_share (xCons (xVar 1) (xCons (xVar 2) xNil)))) sNx) (sSeq (sIf (xT (x2 kEq (xVar 0) (xC (.int 5)))) (sRet (xCall m_finer (xCons (xVar 1) (xCons (xVar 2) xNil)))) sNx) (sSeq (sIf (xT (x2 kEq (xVar 0) (xC (.int 6)))) (sRet (xCall m_cross_table (xCons (xVar 1) (xCons (xVar 2) xNil)))) sNx) (sSeq (sIf (xT (x2 kEq (xVar 0) (xC (.int 7)))) (sRet (xCall m_count_moves (xCons (xVar 1) (xCons (xVar 2) xNil)))) sNx) (sSeq (sIf (xT (x2 kEq (xVar 0) (xC (.int 8)))) (sRet (xCall m_greatest_shared (xCons (xVar 1) (xCons (xVar 2) xNil)))) sNx) (sSeq (sIf (xT (x2 kEq (xVar 0) (xC (.int 9)))) (sRet (xCall m_moves (xCons (xVar 1) (xCons (xVar 2) xNil)))) sNx) (sSeq (sIf (xT (x2 kEq (xVar 0) (xC (.int 10)))) (sRet (xCall m_coarsest_finer (xCons (xVar 1) (xCons (xVar 2) xNil)))) sNx) (sSeq (sIf (xT (x2 kEq (xVar 0) (xC (.int 11)))) (sRet (xCall m_finest_coarser (xCons (xVar 1) (xCons (xVar 2) xNil)))) sNx) (sSeq (sIf (xT (x2 kEq (xVar 0) (xC (.int 12)))) (sRet (xCall m_count_steps (xCons (xVar 1) (xCons (xVar 2) xNil)))) sNx) (sSeq (sIf (xT (x2 kEq (xVar 0) (xC (.int 13)))) (sRet (xCall m_way (xCons (xVar 1) (xCons (xVar 2) xNil)))) sNx) (sSeq (sIf (xT (x2 kEq (xVar 0) (xC (.int 14)))) (sRet (xCall m_between (xCons (xVar 1) (xCons (xVar 2) xNil)))) sNx) (sSeq (sIf (xT (x2 kEq (xVar 0) (xC (.int 15)))) (sRet (xCall m_is_between (xCons (xVar 1) (xCons (xVar 2) (xCons (xVar 1) xNil))))) sNx) (sRet (xIf (xT (x2 kEq (xVar 0) (xC (.int 16)))) (xCall m_is_between (xCons (xVar 1) (xCons (xVar 1) (xCons (xVar 2) xNil)))) (xCall m_middle_groupings (xCons (xLst (xCons (xVar 1) (xCons (xVar 2) xNil))) xNil))))))))))))))))))))
def m__law_two : List D → M D := runF 3 f__law_two
theorem pu_m__law_two : ∀ ds : List D, Pu (m__law_two ds) := pu_runF (b := f__law_two) (pus_seq (pus_if (pu_xT (pu_x2 pu_kEq pu_xVar pu_xC)) (pus_ret (pu_xCall pu_m_pair_counts (pu_xCons pu_xVar (pu_xCons pu_xVar pu_xNil)))) pus_nx) (pus_seq (pus_if (pu_xT (pu_x2 pu_kEq pu_xVar pu_xC)) (pus_ret (pu_xCall pu_m_unlike_pairs (pu_xCons pu_xVar (pu_xCons pu_xVar pu_xNil)))) pus_nx) (pus_seq (pus_if (pu_xT (pu_x2 pu_kEq pu_xVar pu_xC)) (pus_ret (pu_xCall pu_m_pair_distance (pu_xCons pu_xVar (pu_xCons pu_xVar pu_xNil)))) pus_nx) (pus_seq (pus_if (pu_xT (pu_x2 pu_kEq pu_xVar pu_xC)) (pus_ret (pu_xCall pu_m_agreement (pu_xCons pu_xVar (pu_xCons pu_xVar pu_xNil)))) pus_nx) (pus_seq (pus_if (pu_xT (pu_x2 pu_kEq pu_xVar pu_xC)) (pus_ret (pu_xCall pu_m_shared_share (pu_xCons pu_xVar (pu_xCons pu_xVar pu_xNil)))) pus_nx) (pus_seq (pus_if (pu_xT (pu_x2 pu_kEq pu_xVar pu_xC)) (pus_ret (pu_xCall pu_m_finer (pu_xCons pu_xVar (pu_xCons pu_xVar pu_xNil)))) pus_nx) (pus_seq (pus_if (pu_xT (pu_x2 pu_kEq pu_xVar pu_xC)) (pus_ret (pu_xCall pu_m_cross_table (pu_xCons pu_xVar (pu_xCons pu_xVar pu_xNil)))) pus_nx) (pus_seq (pus_if (pu_xT (pu_x2 pu_kEq pu_xVar pu_xC)) (pus_ret (pu_xCall pu_m_count_moves (pu_xCons pu_xVar (pu_xCons pu_xVar pu_xNil)))) pus_nx) (pus_seq (pus_if (pu_xT (pu_x2 pu_kEq pu_xVar pu_xC)) (pus_ret (pu_xCall pu_m_greatest_shared (pu_xCons pu_xVar (pu_xCons pu_xVar pu_xNil)))) pus_nx) (pus_seq (pus_if (pu_xT (pu_x2 pu_kEq pu_xVar pu_xC)) (pus_ret (pu_xCall pu_m_moves (pu_xCons pu_xVar (pu_xCons pu_xVar pu_xNil)))) pus_nx) (pus_seq (pus_if (pu_xT (pu_x2 pu_kEq pu_xVar pu_xC)) (pus_ret (pu_xCall pu_m_coarsest_finer (pu_xCons pu_xVar (pu_xCons pu_xVar pu_xNil)))) pus_nx) (pus_seq (pus_if (pu_xT (pu_x2 pu_kEq pu_xVar pu_xC)) (pus_ret (pu_xCall pu_m_finest_coarser (pu_xCons pu_xVar (pu_xCons pu_xVar pu_xNil)))) pus_nx) (pus_seq (pus_if (pu_xT (pu_x2 pu_kEq pu_xVar pu_xC)) (pus_ret (pu_xCall pu_m_count_steps (pu_xCons pu_xVar (pu_xCons pu_xVar pu_xNil)))) pus_nx) (pus_seq (pus_if (pu_xT (pu_x2 pu_kEq pu_xVar pu_xC)) (pus_ret (pu_xCall pu_m_way (pu_xCons pu_xVar (pu_xCons pu_xVar pu_xNil)))) pus_nx) (pus_seq (pus_if (pu_xT (pu_x2 pu_kEq pu_xVar pu_xC)) (pus_ret (pu_xCall pu_m_between (pu_xCons pu_xVar (pu_xCons pu_xVar pu_xNil)))) pus_nx) (pus_seq (pus_if (pu_xT (pu_x2 pu_kEq pu_xVar pu_xC)) (pus_ret (pu_xCall pu_m_is_between (pu_xCons pu_xVar (pu_xCons pu_xVar (pu_xCons pu_xVar pu_xNil))))) pus_nx) (pus_ret (pu_xIf (pu_xT (pu_x2 pu_kEq pu_xVar pu_xC)) (pu_xCall pu_m_is_between (pu_xCons pu_xVar (pu_xCons pu_xVar (pu_xCons pu_xVar pu_xNil)))) (pu_xCall pu_m_middle_groupings (pu_xCons (pu_xLst (pu_xCons pu_xVar (pu_xCons pu_xVar pu_xNil))) pu_xNil))))))))))))))))))))
def f__law_wish : Sm := (sSeq (sIf (xT (x2 kEq (xVar 0) (xC (.int 0)))) (sRet (xCall m_can_be (xCons (xVar 1) (xCons (xVar 2) (xCons (xVar 3) xNil))))) sNx) (sSeq (sIf (xT (x2 kEq (xVar 0) (xC (.int 1)))) (sRet (xCall m_first_against (xCons (xVar 1) (xCons (xVar 2) (xCons (xVar 3) xNil))))) sNx) (sSeq (sIf (xT (x2 kEq (xVar 0) (xC (.int 2)))) (sRet (xCall m_all_fitting (xCons (xVar 1) (xCons (xVar 2) (xCons (xVar 3) xNil))))) sNx) (sSeq (sIf (xT (x2 kEq (xVar 0) (xC (.int 3)))) (sRet (xCall m_fewest_groups (xCons (xVar 1) (xCons (xVar 2) (xCons (xVar 3) xNil))))) sNx) (sSeq (sIf (xT (x2 kEq (xVar 0) (xC (.int 4)))) (sRet (xCall m_sure_pairs (xCons (xVar 1) (xCons (xVar 2) (xCons (xVar 3) xNil))))) sNx) (sSeq (sIf (xT (x2 kEq (xVar 0) (xC (.int 5)))) (sRet (xCall m_chains (xCons (xVar 1) (xCons (xVar 2) xNil)))) sNx) (sSeq (sIf (xT (x2 kEq (xVar 0) (xC (.int 6)))) (sRet (xCall m_shortest_chain (xCons (xVar 1) (xCons (xVar 2) (xCons (xC (.int 0)) (xCons (xVar 3) xNil)))))) sNx) (sSeq (sIf (xT (x2 kEq (xVar 0) (xC (.int 7)))) (sRet (xCall m_all_groupings (xCons (xVar 1) xNil))) sNx) (sRet (xIf (xT (x2 kEq (xVar 0) (xC (.int 8)))) (xCall m_count_all (xCons (xVar 1) xNil)) (xCall m_count_with_groups (xCons (xVar 1) (xCons (xVar 2) xNil)))))))))))))
def m__law_wish : List D → M D := runF 4 f__law_wish
theorem pu_m__law_wish : ∀ ds : List D, Pu (m__law_wish ds) := pu_runF (b := f__law_wish) (pus_seq (pus_if (pu_xT (pu_x2 pu_kEq pu_xVar pu_xC)) (pus_ret (pu_xCall pu_m_can_be (pu_xCons pu_xVar (pu_xCons pu_xVar (pu_xCons pu_xVar pu_xNil))))) pus_nx) (pus_seq (pus_if (pu_xT (pu_x2 pu_kEq pu_xVar pu_xC)) (pus_ret (pu_xCall pu_m_first_against (pu_xCons pu_xVar (pu_xCons pu_xVar (pu_xCons pu_xVar pu_xNil))))) pus_nx) (pus_seq (pus_if (pu_xT (pu_x2 pu_kEq pu_xVar pu_xC)) (pus_ret (pu_xCall pu_m_all_fitting (pu_xCons pu_xVar (pu_xCons pu_xVar (pu_xCons pu_xVar pu_xNil))))) pus_nx) (pus_seq (pus_if (pu_xT (pu_x2 pu_kEq pu_xVar pu_xC)) (pus_ret (pu_xCall pu_m_fewest_groups (pu_xCons pu_xVar (pu_xCons pu_xVar (pu_xCons pu_xVar pu_xNil))))) pus_nx) (pus_seq (pus_if (pu_xT (pu_x2 pu_kEq pu_xVar pu_xC)) (pus_ret (pu_xCall pu_m_sure_pairs (pu_xCons pu_xVar (pu_xCons pu_xVar (pu_xCons pu_xVar pu_xNil))))) pus_nx) (pus_seq (pus_if (pu_xT (pu_x2 pu_kEq pu_xVar pu_xC)) (pus_ret (pu_xCall pu_m_chains (pu_xCons pu_xVar (pu_xCons pu_xVar pu_xNil)))) pus_nx) (pus_seq (pus_if (pu_xT (pu_x2 pu_kEq pu_xVar pu_xC)) (pus_ret (pu_xCall pu_m_shortest_chain (pu_xCons pu_xVar (pu_xCons pu_xVar (pu_xCons pu_xC (pu_xCons pu_xVar pu_xNil)))))) pus_nx) (pus_seq (pus_if (pu_xT (pu_x2 pu_kEq pu_xVar pu_xC)) (pus_ret (pu_xCall pu_m_all_groupings (pu_xCons pu_xVar pu_xNil))) pus_nx) (pus_ret (pu_xIf (pu_xT (pu_x2 pu_kEq pu_xVar pu_xC)) (pu_xCall pu_m_count_all (pu_xCons pu_xVar pu_xNil)) (pu_xCall pu_m_count_with_groups (pu_xCons pu_xVar (pu_xCons pu_xVar pu_xNil)))))))))))))
def f__law_first : Sm := (sSeq (sIf (xOr (xT (x2 kNe (xCall m_by_labels (xCons (xLst (xCons (xC (.int 5)) (xCons (xC (.int 2)) (xCons (xC (.int 5)) xNil)))) xNil)) (xLst (xCons (xC (.int 0)) (xCons (xC (.int 1)) (xCons (xC (.int 0)) xNil)))))) (xOr (xT (x2 kNe (xCall m_pair_counts (xCons (xVar 0) (xCons (xVar 1) xNil))) (xTup (xCons (xC (.int 1)) (xCons (xC (.int 1)) (xCons (xC (.int 2)) (xCons (xC (.int 2)) xNil))))))) (xT (x2 kNe (xCall m_cross_table (xCons (xVar 0) (xCons (xVar 1) xNil))) (xLst (xCons (xLst (xCons (xC (.int 1)) (xCons (xC (.int 1)) xNil))) (xCons (xLst (xCons (xC (.int 0)) (xCons (xC (.int 2)) xNil))) xNil))))))) (sRet (xC (.bool false))) sNx) (sSeq (sIf (xOr (xT (x2 kIsNot (xCall m_are_enough (xCons (xVar 0) (xCons (xVar 1) (xCons (xLst (xCons (xC (.int 1)) xNil)) xNil)))) (xC (.bool true)))) (xT (x2 kNe (xCall m_put_into (xCons (xVar 0) (xCons (xC (.int 1)) (xCons (xC (.int 1)) xNil)))) (xLst (xCons (xC (.int 0)) (xCons (xC (.int 1)) (xCons (xC (.int 1)) (xCons (xC (.int 1)) xNil)))))))) (sRet (xC (.bool false))) sNx) (sRet (xAndV (x2 kEq (xCall m_coarsest_finer (xCons (xVar 0) (xCons (xVar 1) xNil))) (xLst (xCons (xC (.int 0)) (xCons (xC (.int 1)) (xCons (xC (.int 2)) (xCons (xC (.int 2)) xNil)))))) (x2 kEq (xCall m_count_steps (xCons (xVar 0) (xCons (xVar 1) xNil))) (xC (.int 2)))))))
def m__law_first : List D → M D := runF 2 f__law_first
theorem pu_m__law_first : ∀ ds : List D, Pu (m__law_first ds) := pu_runF (b := f__law_first) (pus_seq (pus_if (pu_xOr (pu_xT (pu_x2 pu_kNe (pu_xCall pu_m_by_labels (pu_xCons (pu_xLst (pu_xCons pu_xC (pu_xCons pu_xC (pu_xCons pu_xC pu_xNil)))) pu_xNil)) (pu_xLst (pu_xCons pu_xC (pu_xCons pu_xC (pu_xCons pu_xC pu_xNil)))))) (pu_xOr (pu_xT (pu_x2 pu_kNe (pu_xCall pu_m_pair_counts (pu_xCons pu_xVar (pu_xCons pu_xVar pu_xNil))) (pu_xTup (pu_xCons pu_xC (pu_xCons pu_xC (pu_xCons pu_xC (pu_xCons pu_xC pu_xNil))))))) (pu_xT (pu_x2 pu_kNe (pu_xCall pu_m_cross_table (pu_xCons pu_xVar (pu_xCons pu_xVar pu_xNil))) (pu_xLst (pu_xCons (pu_xLst (pu_xCons pu_xC (pu_xCons pu_xC pu_xNil))) (pu_xCons (pu_xLst (pu_xCons pu_xC (pu_xCons pu_xC pu_xNil))) pu_xNil))))))) (pus_ret pu_xC) pus_nx) (pus_seq (pus_if (pu_xOr (pu_xT (pu_x2 pu_kIsNot (pu_xCall pu_m_are_enough (pu_xCons pu_xVar (pu_xCons pu_xVar (pu_xCons (pu_xLst (pu_xCons pu_xC pu_xNil)) pu_xNil)))) pu_xC)) (pu_xT (pu_x2 pu_kNe (pu_xCall pu_m_put_into (pu_xCons pu_xVar (pu_xCons pu_xC (pu_xCons pu_xC pu_xNil)))) (pu_xLst (pu_xCons pu_xC (pu_xCons pu_xC (pu_xCons pu_xC (pu_xCons pu_xC pu_xNil)))))))) (pus_ret pu_xC) pus_nx) (pus_ret (pu_xAndV (pu_x2 pu_kEq (pu_xCall pu_m_coarsest_finer (pu_xCons pu_xVar (pu_xCons pu_xVar pu_xNil))) (pu_xLst (pu_xCons pu_xC (pu_xCons pu_xC (pu_xCons pu_xC (pu_xCons pu_xC pu_xNil)))))) (pu_x2 pu_kEq (pu_xCall pu_m_count_steps (pu_xCons pu_xVar (pu_xCons pu_xVar pu_xNil))) pu_xC)))))
def f__law_second : Sm := (sSeq (sIf (xOr (xT (x2 kIsNot (xCall m_is_between (xCons (xVar 0) (xCons (xLst (xCons (xC (.int 0)) (xCons (xC (.int 1)) (xCons (xC (.int 2)) (xCons (xC (.int 2)) xNil))))) (xCons (xVar 1) xNil)))) (xC (.bool true)))) (xT (x2 kNe (xCall m_with_sizes (xCons (xC (.int 3)) (xCons (xTup (xCons (xC (.int 1)) (xCons (xC (.int 2)) xNil))) xNil))) (xLst (xCons (xLst (xCons (xC (.int 0)) (xCons (xC (.int 0)) (xCons (xC (.int 1)) xNil)))) (xCons (xLst (xCons (xC (.int 0)) (xCons (xC (.int 1)) (xCons (xC (.int 0)) xNil)))) (xCons (xLst (xCons (xC (.int 0)) (xCons (xC (.int 1)) (xCons (xC (.int 1)) xNil)))) xNil))))))) (sRet (xC (.bool false))) sNx) (sSeq (sIf (xOr (xT (x2 kNe (xCall m_count_with_groups (xCons (xC (.int 4)) (xCons (xC (.int 2)) xNil))) (xC (.int 7)))) (xOr (xT (x2 kNe (xCall m_chains (xCons (xC (.int 4)) (xCons (xLst (xCons (xTup (xCons (xC (.int 0)) (xCons (xC (.int 2)) xNil))) (xCons (xTup (xCons (xC (.int 2)) (xCons (xC (.int 1)) xNil))) xNil))) xNil))) (xLst (xCons (xC (.int 0)) (xCons (xC (.int 0)) (xCons (xC (.int 0)) (xCons (xC (.int 1)) xNil))))))) (xT (x2 kNe (xCall m_fewest_groups (xCons (xC (.int 3)) (xCons (xLst (xCons (xTup (xCons (xC (.int 0)) (xCons (xC (.int 1)) xNil))) xNil)) (xCons (xLst (xCons (xTup (xCons (xC (.int 1)) (xCons (xC (.int 2)) xNil))) xNil)) xNil)))) (xC (.int 2)))))) (sRet (xC (.bool false))) sNx) (sRet (xAndV (x2 kEq (xCall m_replaced (xCons (xLst (xCons (xC (.int 0)) (xCons (xC (.int 1)) (xCons (xC (.int 2)) xNil)))) (xCons (xLst (xCons (xC (.int 0)) (xCons (xC (.int 1)) (xCons (xC (.int 0)) xNil)))) xNil))) (xLst (xCons (xC (.int 0)) (xCons (xC (.int 1)) (xCons (xC (.int 0)) xNil))))) (x2 kEq (xCall m_format_groups (xCons (xVar 1) xNil)) (xC (.str "0|123")))))))
def m__law_second : List D → M D := runF 2 f__law_second
theorem pu_m__law_second : ∀ ds : List D, Pu (m__law_second ds) := pu_runF (b := f__law_second) (pus_seq (pus_if (pu_xOr (pu_xT (pu_x2 pu_kIsNot (pu_xCall pu_m_is_between (pu_xCons pu_xVar (pu_xCons (pu_xLst (pu_xCons pu_xC (pu_xCons pu_xC (pu_xCons pu_xC (pu_xCons pu_xC pu_xNil))))) (pu_xCons pu_xVar pu_xNil)))) pu_xC)) (pu_xT (pu_x2 pu_kNe (pu_xCall pu_m_with_sizes (pu_xCons pu_xC (pu_xCons (pu_xTup (pu_xCons pu_xC (pu_xCons pu_xC pu_xNil))) pu_xNil))) (pu_xLst (pu_xCons (pu_xLst (pu_xCons pu_xC (pu_xCons pu_xC (pu_xCons pu_xC pu_xNil)))) (pu_xCons (pu_xLst (pu_xCons pu_xC (pu_xCons pu_xC (pu_xCons pu_xC pu_xNil)))) (pu_xCons (pu_xLst (pu_xCons pu_xC (pu_xCons pu_xC (pu_xCons pu_xC pu_xNil)))) pu_xNil))))))) (pus_ret pu_xC) pus_nx) (pus_seq (pus_if (pu_xOr (pu_xT (pu_x2 pu_kNe (pu_xCall pu_m_count_with_groups (pu_xCons pu_xC (pu_xCons pu_xC pu_xNil))) pu_xC)) (pu_xOr (pu_xT (pu_x2 pu_kNe (pu_xCall pu_m_chains (pu_xCons pu_xC (pu_xCons (pu_xLst (pu_xCons (pu_xTup (pu_xCons pu_xC (pu_xCons pu_xC pu_xNil))) (pu_xCons (pu_xTup (pu_xCons pu_xC (pu_xCons pu_xC pu_xNil))) pu_xNil))) pu_xNil))) (pu_xLst (pu_xCons pu_xC (pu_xCons pu_xC (pu_xCons pu_xC (pu_xCons pu_xC pu_xNil))))))) (pu_xT (pu_x2 pu_kNe (pu_xCall pu_m_fewest_groups (pu_xCons pu_xC (pu_xCons (pu_xLst (pu_xCons (pu_xTup (pu_xCons pu_xC (pu_xCons pu_xC pu_xNil))) pu_xNil)) (pu_xCons (pu_xLst (pu_xCons (pu_xTup (pu_xCons pu_xC (pu_xCons pu_xC pu_xNil))) pu_xNil)) pu_xNil)))) pu_xC)))) (pus_ret pu_xC) pus_nx) (pus_ret (pu_xAndV (pu_x2 pu_kEq (pu_xCall pu_m_replaced (pu_xCons (pu_xLst (pu_xCons pu_xC (pu_xCons pu_xC (pu_xCons pu_xC pu_xNil)))) (pu_xCons (pu_xLst (pu_xCons pu_xC (pu_xCons pu_xC (pu_xCons pu_xC pu_xNil)))) pu_xNil))) (pu_xLst (pu_xCons pu_xC (pu_xCons pu_xC (pu_xCons pu_xC pu_xNil))))) (pu_x2 pu_kEq (pu_xCall pu_m_format_groups (pu_xCons pu_xVar pu_xNil)) pu_xC)))))
def m__law_sizes : Nat → List D → M D
  | 0 => fun _ => M.bad
  | d + 1 => runF 5 ((sSeq (sIf (xT (x2 kEq (xVar 0) (xC (.int 0)))) (sRet (xLst (xCons (xTup xNil) xNil))) sNx)
    (sSeq (sSet 2 (xLst xNil))
    (sSeq (sFor (fun ρ => M.bind ((xCons (xC (.int 1)) (xCons (x2 kAdd (xCall kMin2 (xCons (xVar 0) (xCons (xVar 1) xNil))) (xC (.int 1))) xNil)) ρ) kRg2) (.nm 3) (sSet 2 (x2 kAdd (xVar 2) (xLc [4] (.nm 4) (xIt asL (xCall (m__law_sizes d) (xCons (x2 kSub (xVar 0) (xVar 3)) (xCons (xVar 3) xNil)))) xYes (x2 kAdd (xTup (xCons (xVar 3) xNil)) (xVar 4))))))
    (sRet (xVar 2))))))
theorem pu_m__law_sizes : ∀ (d : Nat) (ds : List D), Pu (m__law_sizes d ds)
  | 0 => fun _ => pu_bad
  | d + 1 => pu_runF (pus_seq (pus_if (pu_xT (pu_x2 pu_kEq pu_xVar pu_xC)) (pus_ret (pu_xLst (pu_xCons (pu_xTup pu_xNil) pu_xNil))) pus_nx) (pus_seq (pus_set (pu_xLst pu_xNil)) (pus_seq (pus_for (pu_xItL pu_kRg2 (pu_xCons pu_xC (pu_xCons (pu_x2 pu_kAdd (pu_xCall pu_kMin2 (pu_xCons pu_xVar (pu_xCons pu_xVar pu_xNil))) pu_xC) pu_xNil))) (pus_set (pu_x2 pu_kAdd pu_xVar (pu_xLc (pu_xIt pu_asL (pu_xCall (pu_m__law_sizes d) (pu_xCons (pu_x2 pu_kSub pu_xVar pu_xVar) (pu_xCons pu_xVar pu_xNil)))) pu_xYes (pu_x2 pu_kAdd (pu_xTup (pu_xCons pu_xVar pu_xNil)) pu_xVar))))) (pus_ret pu_xVar))))
end Pg

namespace Pg
open PySem PySem.Spec PyProof.Rows L2 DL
def f_law : Sm := (sSeq (sSet 2 (x2 kAdd (xC (.int 2)) (xCall m__law_draw (xCons (xVar 1) (xCons (xC (.int 6)) xNil)))))
    (sSeq (sOwn 3 (xLst xNil))
    (sSeq (sFor (xIt kRg (xCall m__law_draw (xCons (xVar 1) (xCons (xC (.int 9)) xNil)))) (.nm 4) (sSeq (sSet 5 (xCall m__law_draw (xCons (xVar 1) (xCons (xVar 2) xNil))))
    (sApp 3 (xTup (xCons (xVar 5) (xCons (x2 kMod (x2 kAdd (x2 kAdd (xVar 5) (xC (.int 1))) (xCall m__law_draw (xCons (xVar 1) (xCons (x2 kSub (xVar 2) (xC (.int 1))) xNil)))) (xVar 2)) xNil))))))
    (sSeq (sSet 6 (xCall m__law_draw (xCons (xVar 1) (xCons (xVar 2) xNil))))
    (sSeq (sSet 7 (x2 kMod (x2 kAdd (x2 kAdd (xVar 6) (xC (.int 1))) (xCall m__law_draw (xCons (xVar 1) (xCons (x2 kSub (xVar 2) (xC (.int 1))) xNil)))) (xVar 2)))
    (sSeq (sDct1 8 (xVar 6) (xC (.int 0)))
    (sSeq (sFor (xIt kRg (xVar 2)) (.nm 9) (sFor (xIt asL (x2 kAdd (xPeek 3) (xLc [4, 10] (.tp [4, 10]) (xIt asL (xPeek 3)) xYes (xTup (xCons (xVar 10) (xCons (xVar 4) xNil)))))) (.tp [4, 10]) (sIf (xAnd (xT (xDIn 8 (xVar 4))) (xT (x2 kGt (xDGet2 8 (xVar 10) (xVar 2)) (x2 kAdd (xDGet 8 (xVar 4)) (xC (.int 1)))))) (sDput 8 (xVar 10) (x2 kAdd (xDGet 8 (xVar 4)) (xC (.int 1)))) sNx)))
    (sFrz 3 (sSeq (sSet 11 (xCall m__law_chain (xCons (xVar 2) (xCons (xVar 3) (xCons (xVar 6) (xCons (xVar 7) xNil))))))
    (sSeq (sSet 12 (xCall m_chains (xCons (xVar 2) (xCons (xVar 3) xNil))))
    (sSeq (sIf (xT (x2 kNe (x2 kEq (x2 kIx (xVar 12) (xVar 6)) (x2 kIx (xVar 12) (xVar 7))) (xDIn 8 (xVar 7)))) (sRet (xC (.bool false))) sNx)
    (sSeq (sIf (xT (xDNotIn 8 (xVar 7))) (sRet (x2 kEq (xVar 11) (xC (.str "none")))) sNx)
    (sSeq (sIf (xOr (xNot (xT (x1 (kIsi "list") (xVar 11)))) (xOr (xT (x2 kNe (x2 kIx (xVar 11) (xC (.int 0))) (xVar 6))) (xOr (xT (x2 kNe (x2 kIx (xVar 11) (x1 kNeg (xC (.int 1)))) (xVar 7))) (xT (x2 kNe (xCall kLen (xCons (xVar 11) xNil)) (x2 kAdd (xDGet 8 (xVar 7)) (xC (.int 1)))))))) (sRet (xC (.bool false))) sNx)
    (sSeq (sFor (fun ρ => M.bind ((xCons (xVar 11) (xCons (xSl (xVar 11) (xPart (xC (.int 1))) xNoPart) xNil)) ρ) kZip) (.tp [4, 10]) (sIf (xAnd (xT (x2 kNotIn (xTup (xCons (xVar 4) (xCons (xVar 10) xNil))) (xVar 3))) (xT (x2 kNotIn (xTup (xCons (xVar 10) (xCons (xVar 4) xNil))) (xVar 3)))) (sRet (xC (.bool false))) sNx))
    (sRet (xAndV (x2 kEq (xCall m_first_against (xCons (xVar 2) (xCons (xVar 3) (xCons (xLst (xCons (xTup (xCons (xVar 6) (xCons (xVar 7) xNil))) xNil)) xNil)))) (xTup (xCons (xVar 6) (xCons (xVar 7) xNil)))) (x2 kIs (xCall m_can_be (xCons (xVar 2) (xCons (xVar 3) (xCons (xLst (xCons (xTup (xCons (xVar 7) (xCons (xVar 6) xNil))) xNil)) xNil)))) (xC (.bool false)))))))))))))))))))
def e1 : X D := (x2 kAdd (xC (.int 2)) (xCall m__law_draw (xCons (xVar 1) (xCons (xC (.int 6)) xNil))))
-- e1 draws
def e2 : X D := (xLst xNil)
theorem pu_e2 : PuX e2 := (pu_xLst pu_xNil)
def a3 : X (List D) := (xIt kRg (xCall m__law_draw (xCons (xVar 1) (xCons (xC (.int 9)) xNil))))
-- a3 draws
def e4 : X D := (xCall m__law_draw (xCons (xVar 1) (xCons (xVar 2) xNil)))
-- e4 draws
def e5 : X D := (xCall m__law_draw (xCons (xVar 1) (xCons (xVar 2) xNil)))
-- e5 draws
def e6 : X D := (x2 kMod (x2 kAdd (x2 kAdd (xVar 6) (xC (.int 1))) (xCall m__law_draw (xCons (xVar 1) (xCons (x2 kSub (xVar 2) (xC (.int 1))) xNil)))) (xVar 2))
-- e6 draws
def a7 : X (List D) := (xIt kRg (xVar 2))
theorem pu_a7 : PuX a7 := (pu_xIt pu_kRg pu_xVar)
def a8 : X (List D) := (xIt asL (x2 kAdd (xPeek 3) (xLc [4, 10] (.tp [4, 10]) (xIt asL (xPeek 3)) xYes (xTup (xCons (xVar 10) (xCons (xVar 4) xNil))))))
theorem pu_a8 : PuX a8 := (pu_xIt pu_asL (pu_x2 pu_kAdd pu_xPeek (pu_xLc (pu_xIt pu_asL pu_xPeek) pu_xYes (pu_xTup (pu_xCons pu_xVar (pu_xCons pu_xVar pu_xNil))))))
def q9 : X Bool := (xAnd (xT (xDIn 8 (xVar 4))) (xT (x2 kGt (xDGet2 8 (xVar 10) (xVar 2)) (x2 kAdd (xDGet 8 (xVar 4)) (xC (.int 1))))))
theorem pu_q9 : PuX q9 := (pu_xAnd (pu_xT (pu_xDIn pu_xVar)) (pu_xT (pu_x2 pu_kGt (pu_xDGet2 pu_xVar pu_xVar) (pu_x2 pu_kAdd (pu_xDGet pu_xVar) pu_xC))))
def e10 : X D := (xCall m__law_chain (xCons (xVar 2) (xCons (xVar 3) (xCons (xVar 6) (xCons (xVar 7) xNil)))))
theorem pu_e10 : PuX e10 := (pu_xCall pu_m__law_chain (pu_xCons pu_xVar (pu_xCons pu_xVar (pu_xCons pu_xVar (pu_xCons pu_xVar pu_xNil)))))
def e11 : X D := (xCall m_chains (xCons (xVar 2) (xCons (xVar 3) xNil)))
theorem pu_e11 : PuX e11 := (pu_xCall pu_m_chains (pu_xCons pu_xVar (pu_xCons pu_xVar pu_xNil)))
def q12 : X Bool := (xT (x2 kNe (x2 kEq (x2 kIx (xVar 12) (xVar 6)) (x2 kIx (xVar 12) (xVar 7))) (xDIn 8 (xVar 7))))
theorem pu_q12 : PuX q12 := (pu_xT (pu_x2 pu_kNe (pu_x2 pu_kEq (pu_x2 pu_kIx pu_xVar pu_xVar) (pu_x2 pu_kIx pu_xVar pu_xVar)) (pu_xDIn pu_xVar)))
def q13 : X Bool := (xT (xDNotIn 8 (xVar 7)))
theorem pu_q13 : PuX q13 := (pu_xT (pu_xDNotIn pu_xVar))
def e14 : X D := (x2 kEq (xVar 11) (xC (.str "none")))
theorem pu_e14 : PuX e14 := (pu_x2 pu_kEq pu_xVar pu_xC)
def q15 : X Bool := (xOr (xNot (xT (x1 (kIsi "list") (xVar 11)))) (xOr (xT (x2 kNe (x2 kIx (xVar 11) (xC (.int 0))) (xVar 6))) (xOr (xT (x2 kNe (x2 kIx (xVar 11) (x1 kNeg (xC (.int 1)))) (xVar 7))) (xT (x2 kNe (xCall kLen (xCons (xVar 11) xNil)) (x2 kAdd (xDGet 8 (xVar 7)) (xC (.int 1))))))))
theorem pu_q15 : PuX q15 := (pu_xOr (pu_xNot (pu_xT (pu_x1 (pu_kIsi "list") pu_xVar))) (pu_xOr (pu_xT (pu_x2 pu_kNe (pu_x2 pu_kIx pu_xVar pu_xC) pu_xVar)) (pu_xOr (pu_xT (pu_x2 pu_kNe (pu_x2 pu_kIx pu_xVar (pu_x1 pu_kNeg pu_xC)) pu_xVar)) (pu_xT (pu_x2 pu_kNe (pu_xCall pu_kLen (pu_xCons pu_xVar pu_xNil)) (pu_x2 pu_kAdd (pu_xDGet pu_xVar) pu_xC))))))
def a16 : X (List D) := (fun ρ => M.bind ((xCons (xVar 11) (xCons (xSl (xVar 11) (xPart (xC (.int 1))) xNoPart) xNil)) ρ) kZip)
theorem pu_a16 : PuX a16 := (pu_xItL pu_kZip (pu_xCons pu_xVar (pu_xCons (pu_xSl pu_xVar (pu_xPart pu_xC) pu_xNoPart) pu_xNil)))
def q17 : X Bool := (xAnd (xT (x2 kNotIn (xTup (xCons (xVar 4) (xCons (xVar 10) xNil))) (xVar 3))) (xT (x2 kNotIn (xTup (xCons (xVar 10) (xCons (xVar 4) xNil))) (xVar 3))))
theorem pu_q17 : PuX q17 := (pu_xAnd (pu_xT (pu_x2 pu_kNotIn (pu_xTup (pu_xCons pu_xVar (pu_xCons pu_xVar pu_xNil))) pu_xVar)) (pu_xT (pu_x2 pu_kNotIn (pu_xTup (pu_xCons pu_xVar (pu_xCons pu_xVar pu_xNil))) pu_xVar)))
def e18 : X D := (xAndV (x2 kEq (xCall m_first_against (xCons (xVar 2) (xCons (xVar 3) (xCons (xLst (xCons (xTup (xCons (xVar 6) (xCons (xVar 7) xNil))) xNil)) xNil)))) (xTup (xCons (xVar 6) (xCons (xVar 7) xNil)))) (x2 kIs (xCall m_can_be (xCons (xVar 2) (xCons (xVar 3) (xCons (xLst (xCons (xTup (xCons (xVar 7) (xCons (xVar 6) xNil))) xNil)) xNil)))) (xC (.bool false))))
theorem pu_e18 : PuX e18 := (pu_xAndV (pu_x2 pu_kEq (pu_xCall pu_m_first_against (pu_xCons pu_xVar (pu_xCons pu_xVar (pu_xCons (pu_xLst (pu_xCons (pu_xTup (pu_xCons pu_xVar (pu_xCons pu_xVar pu_xNil))) pu_xNil)) pu_xNil)))) (pu_xTup (pu_xCons pu_xVar (pu_xCons pu_xVar pu_xNil)))) (pu_x2 pu_kIs (pu_xCall pu_m_can_be (pu_xCons pu_xVar (pu_xCons pu_xVar (pu_xCons (pu_xLst (pu_xCons (pu_xTup (pu_xCons pu_xVar (pu_xCons pu_xVar pu_xNil))) pu_xNil)) pu_xNil)))) pu_xC))
theorem law_eq : f_law = (sSeq (sSet 2 e1)
    (sSeq (sOwn 3 e2)
    (sSeq (sFor a3 (.nm 4) (sSeq (sSet 5 e4)
    (sApp 3 (xTup (xCons (xVar 5) (xCons (x2 kMod (x2 kAdd (x2 kAdd (xVar 5) (xC (.int 1))) (xCall m__law_draw (xCons (xVar 1) (xCons (x2 kSub (xVar 2) (xC (.int 1))) xNil)))) (xVar 2)) xNil))))))
    (sSeq (sSet 6 e5)
    (sSeq (sSet 7 e6)
    (sSeq (sDct1 8 (xVar 6) (xC (.int 0)))
    (sSeq (sFor a7 (.nm 9) (sFor a8 (.tp [4, 10]) (sIf q9 (sDput 8 (xVar 10) (x2 kAdd (xDGet 8 (xVar 4)) (xC (.int 1)))) sNx)))
    (sFrz 3 (sSeq (sSet 11 e10)
    (sSeq (sSet 12 e11)
    (sSeq (sIf q12 (sRet (xC (.bool false))) sNx)
    (sSeq (sIf q13 (sRet e14) sNx)
    (sSeq (sIf q15 (sRet (xC (.bool false))) sNx)
    (sSeq (sFor a16 (.tp [4, 10]) (sIf q17 (sRet (xC (.bool false))) sNx))
    (sRet e18))))))))))))))) := rfl
end Pg

namespace Pg
open PySem PySem.Spec PyProof.Rows L2 DL
def topS (i : Nat) : Stmt := PySem.Challenge.pw_groupsapart_k09_whole_chains.main.body.getD i (.Pass ⟨0, 0, 0, 0⟩)
abbrev s_is_int : Stmt := topS 8
abbrev n_is_int : List Str := ["value", "low", "high"]
theorem sc_is_int : FnScope n_is_int ["value", "low", "high"] (defScope s_is_int) := ⟨rfl, rfl, rfl, by decide +kernel, rfl, by decide +kernel, by decide +kernel⟩
abbrev s_check_size : Stmt := topS 9
abbrev n_check_size : List Str := ["value"]
theorem sc_check_size : FnScope n_check_size ["value"] (defScope s_check_size) := ⟨rfl, rfl, rfl, by decide +kernel, rfl, by decide +kernel, by decide +kernel⟩
abbrev s_numbered : Stmt := topS 11
abbrev n_numbered : List Str := ["labels", "known", "found", "label"]
theorem sc_numbered : FnScope n_numbered ["labels"] (defScope s_numbered) := ⟨rfl, rfl, rfl, by decide +kernel, rfl, by decide +kernel, by decide +kernel⟩
abbrev s_check_pairs : Stmt := topS 13
abbrev n_check_pairs : List Str := ["size", "pairs", "pair", "thing"]
theorem sc_check_pairs : FnScope n_check_pairs ["size", "pairs"] (defScope s_check_pairs) := ⟨rfl, rfl, rfl, by decide +kernel, rfl, by decide +kernel, by decide +kernel⟩
abbrev s_check_wishes : Stmt := topS 14
abbrev n_check_wishes : List Str := ["size", "near", "apart"]
theorem sc_check_wishes : FnScope n_check_wishes ["size", "near", "apart"] (defScope s_check_wishes) := ⟨rfl, rfl, rfl, by decide +kernel, rfl, by decide +kernel, by decide +kernel⟩
abbrev s_chained : Stmt := topS 15
abbrev n_chained : List Str := ["size", "near", "found", "turn", "k", "j", "low"]
theorem sc_chained : FnScope n_chained ["size", "near"] (defScope s_chained) := ⟨rfl, rfl, rfl, by decide +kernel, rfl, by decide +kernel, by decide +kernel⟩
abbrev s_chains : Stmt := topS 16
abbrev n_chains : List Str := ["size", "near"]
theorem sc_chains : FnScope n_chains ["size", "near"] (defScope s_chains) := ⟨rfl, rfl, rfl, by decide +kernel, rfl, by decide +kernel, by decide +kernel⟩
abbrev s_can_be : Stmt := topS 17
abbrev n_can_be : List Str := ["size", "near", "apart", "found", "k", "j"]
theorem sc_can_be : FnScope n_can_be ["size", "near", "apart"] (defScope s_can_be) := ⟨rfl, rfl, rfl, by decide +kernel, rfl, by decide +kernel, by decide +kernel⟩
abbrev s_first_against : Stmt := topS 18
abbrev n_first_against : List Str := ["size", "near", "apart", "found", "bad", "k", "j"]
theorem sc_first_against : FnScope n_first_against ["size", "near", "apart"] (defScope s_first_against) := ⟨rfl, rfl, rfl, by decide +kernel, rfl, by decide +kernel, by decide +kernel⟩
abbrev s_shortest_chain : Stmt := topS 19
abbrev n_shortest_chain : List Str := ["size", "near", "first", "last", "rows", "seen", "turn", "longer", "row", "thing"]
theorem sc_shortest_chain : FnScope n_shortest_chain ["size", "near", "first", "last"] (defScope s_shortest_chain) := ⟨rfl, rfl, rfl, by decide +kernel, rfl, by decide +kernel, by decide +kernel⟩
abbrev s__law_start : Stmt := topS 21
abbrev n__law_start : List Str := ["_law_script"]
theorem sc__law_start : FnScope n__law_start ["_law_script"] (defScope s__law_start) := ⟨rfl, rfl, rfl, by decide +kernel, rfl, by decide +kernel, by decide +kernel⟩
abbrev s__law_draw : Stmt := topS 22
abbrev n__law_draw : List Str := ["_law_draws", "_law_limit", "_law_numbers", "_law_at", "_law_cell", "_law_mixed"]
theorem sc__law_draw : FnScope n__law_draw ["_law_draws", "_law_limit"] (defScope s__law_draw) := ⟨rfl, rfl, rfl, by decide +kernel, rfl, by decide +kernel, by decide +kernel⟩
abbrev s__law_error : Stmt := topS 23
abbrev n__law_error : List Str := ["_law_caught", "_law_kinds"]
theorem sc__law_error : FnScope n__law_error ["_law_caught"] (defScope s__law_error) := ⟨rfl, rfl, rfl, by decide +kernel, rfl, by decide +kernel, by decide +kernel⟩
abbrev s__law_chain : Stmt := topS 24
abbrev n__law_chain : List Str := ["_law_size", "_law_close", "_law_first", "_law_last", "_law_found", "_law_caught", "e"]
theorem sc__law_chain : FnScope n__law_chain ["_law_size", "_law_close", "_law_first", "_law_last"] (defScope s__law_chain) := ⟨rfl, rfl, rfl, by decide +kernel, rfl, by decide +kernel, by decide +kernel⟩
abbrev s_law : Stmt := topS 25
abbrev n_law : List Str := ["_law_script", "_law_draws", "_law_size", "_law_close", "_law_k", "_law_one", "_law_first", "_law_last", "_law_steps_to", "_law_turn", "_law_j", "_law_told", "_law_apart"]
theorem sc_law : FnScope n_law ["_law_script"] (defScope s_law) := ⟨rfl, rfl, rfl, by decide +kernel, rfl, by decide +kernel, by decide +kernel⟩
structure Blt (mg : Str → Option Value) : Prop where
  n_len : mg "len" = none
  n_list : mg "list" = none
  isinstance : mg "isinstance" = none
  n_bool : mg "bool" = none
  n_int : mg "int" = none
  n_all : mg "all" = none
  n_tuple : mg "tuple" = none
  range : mg "range" = none
  n_min : mg "min" = none
  zip : mg "zip" = none
structure Cst (mg : Str → Option Value) : Prop where
  MOST_THINGS : ∃ t : Tok, mg "MOST_THINGS" = some (.int 7 t)
  nothing : True
structure Erf [Ec] (K : PySem.W.Frag) (mg : Str → Option Value) : Prop where
  i_BadPairs : IsF K mg "BadPairs"
  i_BadNumber : IsF K mg "BadNumber"
  i_BadGrouping : IsF K mg "BadGrouping"
  i_NotFound : IsF K mg "NotFound"
  i_BadText : IsF K mg "BadText"
  v_ValueError : IsB K mg "ValueError" "ValueError"
  i_GroupError : IsF K mg "GroupError"
  t_GroupError : TryF K mg "GroupError"
section
variable [Ec] {P : Program} {w : World} {K : PySem.W.Frag} {mg : Str → Option Value} {base : Heap} {κ : Kn}
theorem ok__law_start {f : Addr} {fd : FuncData} (F : Fun K "_law_start" "_law_start" s__law_start f fd) (B : Blt mg) : FnOk P w K mg base CX0 1 f fd ["_law_script"] (spStart K) := by
  refine F.ok sc__law_start (fun vs H Q E h => ?_) (fun cdv A outer s H vs Q E hr h => ?_)
  · obtain ⟨a, ns, rfl, _⟩ := h
    rfl
  refine ⟨tStart K, ?_, start_read h⟩
  exact pss_one (ps_ret (pe_lst (pa_cons (pe_ifExp (pt_cmpR (op_neD hr.units) (pv 0) (pe_lst pa_nil) (nomark _)) (pe_callTy call_list_of (by rfl) B.n_list (by decide +kernel) (pa_cons (pv 0) pa_nil)) (pe_lst (pa_cons pe_int pa_nil))) (pa_cons pe_int pa_nil))))
theorem ok__law_draw {f : Addr} {fd : FuncData} (F : Fun K "_law_draw" "_law_draw" s__law_draw f fd) (hm : mg "_law_draw" = some (.ref f)) (hb : Binds K fd ["_law_draws", "_law_limit"] []) (B : Blt mg) : Cal P w K mg base κ "_law_draw" 1 2 m__law_draw :=
  ok_draw sc__law_draw F hm hb fun cdv A outer s H E => by
    exact pss_cons (ps_set (i := 2) sc__law_draw.nd rfl (Or.inl rfl) (pe_ix ix_list (pv 0) pe_int (fun _ _ => rfl)))
      (pss_cons (ps_asg (pe_op op_add (pe_ix ix_list (pv 0) pe_int (fun _ _ => rfl)) pe_int) (pg_sub (pv 0) pe_int set_list))
      (pss_cons (ps_set (i := 3) sc__law_draw.nd rfl (Or.inl rfl) (pe_op op_mod (pe_ix ix_list (pv 0) pe_int (fun _ _ => rfl)) (pe_callB call_len_seq (by rfl) B.n_len PySem.boot_len (pa_cons (pv 2) pa_nil))))
      (pss_cons (ps_set (i := 4) sc__law_draw.nd rfl (Or.inl rfl) (pe_ix ix_list (pv 2) (pv 3) (fun _ _ => rfl)))
      (pss_cons (ps_if (pt_cmpR op_ge (pv 4) pe_int (nomark _)) (pss_cons (ps_asg (pe_op op_fdiv (pv 4) (pv 1)) (pg_sub (pv 2) (pv 3) set_list)) (pss_one (ps_ret (pe_op op_mod (pv 4) (pv 1))))) pss_nil)
      (pss_cons (ps_set (i := 5) sc__law_draw.nd rfl (Or.inl rfl) (pe_op op_mod (pe_op op_add (pv 4) (pe_op op_mul pe_int (pe_ix ix_list (pv 0) pe_int (fun _ _ => rfl)))) pe_int))
      (pss_cons (ps_set (i := 5) sc__law_draw.nd rfl (Or.inl rfl) (pe_op op_mod (pe_op op_pow (pv 5) pe_int) pe_int))
      (pss_one (ps_ret (pe_op op_mod (pe_op op_fdiv (pe_op op_mod (pe_op op_add (pe_op op_mul (pe_op op_fdiv (pv 5) pe_int) pe_int) (pv 5)) pe_int) pe_int) (pv 1))))))))))
theorem ok_is_int {f : Addr} {fd : FuncData} (F : Fun K "is_int" "is_int" s_is_int f fd) (hm : mg "is_int" = some (.ref f)) (hb : Binds K fd ["value", "low", "high"] []) (B : Blt mg) : Cal P w K mg base κ "is_int" 1 3 m_is_int := by
  refine Cal.of F hm hb (dfn (k := 0) F sc_is_int fun cdv A outer s H E hr => ?_)
  have tk := takes_of (X := cxOf (L2.CX P w) P w K mg base n_is_int "is_int" (defScope s_is_int) f cdv A outer s H E) rfl rfl rfl (E₁ := _) rfl
  have hp := passes_of (X := cxOf (L2.CX P w) P w K mg base n_is_int "is_int" (defScope s_is_int) f cdv A outer s H E) (E₁ := _) rfl
  have hu := hu65 hr
  exact (dss_one (ds_ret (de_and (DE.rv (de_isi isiok_int (DE.rv (de_var (pv 0))) (by rfl) B.isinstance (by rfl) B.n_int (by decide +kernel))) (de_and (DE.rv (de_not (DE.rv (de_isi isiok_bool (DE.rv (de_var (pv 0))) (by rfl) B.isinstance (by rfl) B.n_bool (by decide +kernel))))) (de_one (de_chain op_le op_le k_le k_le (DE.rv (de_var (pv 1))) (DE.rv (de_var (pv 0))) (DE.rv (de_var (pv 2)))))))))
theorem ok_check_size {f : Addr} {fd : FuncData} (F : Fun K "check_size" "check_size" s_check_size f fd) (hm : mg "check_size" = some (.ref f)) (hb : Binds K fd ["value"] []) (c_is_int : Cal P w K mg base κ "is_int" 1 3 m_is_int) (C : Cst mg) (X_BadNumber : Exk K mg κ "BadNumber") : Cal P w K mg base κ "check_size" 2 1 m_check_size := by
  refine Cal.of F hm hb (dfn (k := 1) F sc_check_size fun cdv A outer s H E hr => ?_)
  have tk := takes_of (X := cxOf (L2.CX P w) P w K mg base n_check_size "check_size" (defScope s_check_size) f cdv A outer s H E) rfl rfl rfl (E₁ := _) rfl
  have hp := passes_of (X := cxOf (L2.CX P w) P w K mg base n_check_size "check_size" (defScope s_check_size) f cdv A outer s H E) (E₁ := _) rfl
  have hu := hu65 hr
  exact (dss_one (ds_if (dt_not (dt_val (DE.rv (de_callC c_is_int hr (by omega) tk (by rfl) (da_cons (de_var (pv 0)) (da_cons de_int (da_cons (de_globI (C.MOST_THINGS).choose_spec (by rfl)) da_nil))))))) (dss_one (ds_raise (x := "BadNumber") rfl rfl tk PySem.F.excBase_ValueError (X_BadNumber).xP (X_BadNumber).gP (X_BadNumber).kP (raises_own (X_BadNumber).bP (X_BadNumber).tP) (by rfl))) dss_nil))
theorem ok_numbered {f : Addr} {fd : FuncData} (F : Fun K "numbered" "numbered" s_numbered f fd) (hm : mg "numbered" = some (.ref f)) (hb : Binds K fd ["labels"] [])  : Cal P w K mg base κ "numbered" 1 1 m_numbered := by
  refine Cal.of F hm hb (dfn (k := 0) F sc_numbered fun cdv A outer s H E hr => ?_)
  have tk := takes_of (X := cxOf (L2.CX P w) P w K mg base n_numbered "numbered" (defScope s_numbered) f cdv A outer s H E) rfl rfl rfl (E₁ := _) rfl
  have hp := passes_of (X := cxOf (L2.CX P w) P w K mg base n_numbered "numbered" (defScope s_numbered) f cdv A outer s H E) (E₁ := _) rfl
  have hu := hu65 hr
  exact (dss_cons (ds_own (i := 1) sc_numbered.nd rfl (by first | exact Or.inl rfl | exact Or.inr rfl) (de_lst da_nil))
    (dss_cons (ds_own (i := 2) sc_numbered.nd rfl (by first | exact Or.inl rfl | exact Or.inr rfl) (de_lst da_nil))
    (dss_cons (ds_for (t := (.nm 3)) hp rfl (di_list (de_var (pv 0))) (dg_name (i := 3) sc_numbered.nd rfl (by first | exact Or.inl rfl | exact Or.inr rfl)) (dss_cons (ds_if (dt_cmp (op_notInD hu) (Op2.rv k_notIn) (DE.rv (de_var (pv 3))) (de_peek (pv 1)) (by with_unfolding_all rfl)) (dss_one (ds_app (i := 1) (pv 1) (de_var (pv 3)))) dss_nil)
    (dss_one (ds_app (i := 2) (pv 2) (de_meth (R := RD) k_index PySem.F.plainAttrs_list PySem.F.slot_list_index PySem.F.type_list_index (mt_indexD hu) (de_peek (pv 1)) (da_cons (DE.rv (de_var (pv 3))) da_nil))))))
    (dss_frz (i := 2) (dss_one (ds_ret (de_var (pv 2))))))))
theorem ok_check_pairs {f : Addr} {fd : FuncData} (F : Fun K "check_pairs" "check_pairs" s_check_pairs f fd) (hm : mg "check_pairs" = some (.ref f)) (hb : Binds K fd ["size", "pairs"] []) (c_is_int : Cal P w K mg base κ "is_int" 1 3 m_is_int) (B : Blt mg) (X_BadPairs : Exk K mg κ "BadPairs") : Cal P w K mg base κ "check_pairs" 2 2 m_check_pairs := by
  refine Cal.of F hm hb (dfn (k := 1) F sc_check_pairs fun cdv A outer s H E hr => ?_)
  have tk := takes_of (X := cxOf (L2.CX P w) P w K mg base n_check_pairs "check_pairs" (defScope s_check_pairs) f cdv A outer s H E) rfl rfl rfl (E₁ := _) rfl
  have hp := passes_of (X := cxOf (L2.CX P w) P w K mg base n_check_pairs "check_pairs" (defScope s_check_pairs) f cdv A outer s H E) (E₁ := _) rfl
  have hu := hu65 hr
  exact (dss_cons (ds_if (dt_w (dw_or (dt_not (dt_val (DE.rv (de_isi isiok_list (DE.rv (de_var (pv 1))) (by rfl) B.isinstance (by rfl) B.n_list (by decide +kernel))))) (dw_or1 (dt_cmp op_gt (Op2.rv k_gt) (DE.rv (de_callB call_len k_len (by rfl) B.n_len (by decide +kernel) (da_cons (DE.rv (de_var (pv 1))) da_nil))) (DE.rv de_int) (nomark _))))) (dss_one (ds_raise (x := "BadPairs") rfl rfl tk PySem.F.excBase_ValueError (X_BadPairs).xP (X_BadPairs).gP (X_BadPairs).kP (raises_own (X_BadPairs).bP (X_BadPairs).tP) (by rfl))) dss_nil)
    (dss_one (ds_for (t := (.nm 2)) hp rfl (di_list (de_var (pv 1))) (dg_name (i := 2) sc_check_pairs.nd rfl (by first | exact Or.inl rfl | exact Or.inr rfl)) (dss_cons (ds_if (dt_w (dw_or (dt_not (dt_val (DE.rv (de_isi isiok_tuple (DE.rv (de_var (pv 2))) (by rfl) B.isinstance (by rfl) B.n_tuple (by decide +kernel))))) (dw_or (dt_cmp (op_neD hr.units) (Op2.rv k_ne) (DE.rv (de_callB call_len k_len (by rfl) B.n_len (by decide +kernel) (da_cons (DE.rv (de_var (pv 2))) da_nil))) (DE.rv de_int) (nomark _)) (dw_or1 (dt_not (dt_val (DE.rv (de_callB (cr_all rfl) k_all (by rfl) B.n_all (by decide +kernel) (da_cons (DE.nv (de_lc (own := [("thing", 3)]) (t := (.nm 3)) rfl sc_check_pairs.nd (DI.tr (di_seq (de_var (pv 2)))) (blkOk_by (N := n_check_pairs) (sc := defScope s_check_pairs) (by decide +kernel)) (by decide) (fun _ _ _ _ _ => (dg_name (i := 3) sc_check_pairs.nd rfl (by first | exact Or.inl rfl | exact Or.inr rfl))) (fun _ _ _ _ _ => dts_nil) (fun _ _ _ _ _ => (de_callC c_is_int hr (by omega) takesB (by rfl) (da_cons (de_var (pv 3)) (da_cons de_int (da_cons (de_op op_sub k_sub (DE.rv (de_var (pv 0))) (DE.rv de_int)) da_nil))))))) da_nil))))))))) (dss_one (ds_raise (x := "BadPairs") rfl rfl tk PySem.F.excBase_ValueError (X_BadPairs).xP (X_BadPairs).gP (X_BadPairs).kP (raises_own (X_BadPairs).bP (X_BadPairs).tP) (by rfl))) dss_nil)
    (dss_one (ds_if (dt_cmp (op_eqD hr.units) (Op2.rv k_eq) (DE.rv (de_item (R := RD) (DE.rv (de_var (pv 2))) (DE.rv de_int))) (DE.rv (de_item (R := RD) (DE.rv (de_var (pv 2))) (DE.rv de_int))) (nomark _)) (dss_one (ds_raise (x := "BadPairs") rfl rfl tk PySem.F.excBase_ValueError (X_BadPairs).xP (X_BadPairs).gP (X_BadPairs).kP (raises_own (X_BadPairs).bP (X_BadPairs).tP) (by rfl))) dss_nil))))))
theorem ok_check_wishes {f : Addr} {fd : FuncData} (F : Fun K "check_wishes" "check_wishes" s_check_wishes f fd) (hm : mg "check_wishes" = some (.ref f)) (hb : Binds K fd ["size", "near", "apart"] []) (c_check_size : Cal P w K mg base κ "check_size" 2 1 m_check_size) (c_check_pairs : Cal P w K mg base κ "check_pairs" 2 2 m_check_pairs) : Cal P w K mg base κ "check_wishes" 3 3 m_check_wishes := by
  refine Cal.of F hm hb (dfn (k := 2) F sc_check_wishes fun cdv A outer s H E hr => ?_)
  have tk := takes_of (X := cxOf (L2.CX P w) P w K mg base n_check_wishes "check_wishes" (defScope s_check_wishes) f cdv A outer s H E) rfl rfl rfl (E₁ := _) rfl
  have hp := passes_of (X := cxOf (L2.CX P w) P w K mg base n_check_wishes "check_wishes" (defScope s_check_wishes) f cdv A outer s H E) (E₁ := _) rfl
  have hu := hu65 hr
  exact (dss_cons (ds_expr (de_callC c_check_size hr (by omega) tk (by rfl) (da_cons (de_var (pv 0)) da_nil)))
    (dss_cons (ds_expr (de_callC c_check_pairs hr (by omega) tk (by rfl) (da_cons (de_var (pv 0)) (da_cons (de_var (pv 1)) da_nil))))
    (dss_one (ds_expr (de_callC c_check_pairs hr (by omega) tk (by rfl) (da_cons (de_var (pv 0)) (da_cons (de_var (pv 2)) da_nil)))))))
theorem ok_chained {f : Addr} {fd : FuncData} (F : Fun K "chained" "chained" s_chained f fd) (hm : mg "chained" = some (.ref f)) (hb : Binds K fd ["size", "near"] []) (c_numbered : Cal P w K mg base κ "numbered" 1 1 m_numbered) (B : Blt mg) : Cal P w K mg base κ "chained" 2 2 m_chained := by
  refine Cal.of F hm hb (dfn (k := 1) F sc_chained fun cdv A outer s H E hr => ?_)
  have tk := takes_of (X := cxOf (L2.CX P w) P w K mg base n_chained "chained" (defScope s_chained) f cdv A outer s H E) rfl rfl rfl (E₁ := _) rfl
  have hp := passes_of (X := cxOf (L2.CX P w) P w K mg base n_chained "chained" (defScope s_chained) f cdv A outer s H E) (E₁ := _) rfl
  have hu := hu65 hr
  exact (dss_cons (ds_own (i := 2) sc_chained.nd rfl (by first | exact Or.inl rfl | exact Or.inr rfl) (de_listRg rfl (by rfl) B.n_list (by rfl) B.range (DE.rv (de_var (pv 0)))))
    (dss_cons (ds_for (t := (.nm 3)) hp rfl (di_range1 (by rfl) B.range (DE.rv (de_var (pv 0)))) (dg_name (i := 3) sc_chained.nd rfl (by first | exact Or.inl rfl | exact Or.inr rfl)) (dss_one (ds_for (t := (.tp [4, 5])) hp rfl (di_list (de_var (pv 1))) (dg_tup rfl (dgs_cons (dg_name (i := 4) sc_chained.nd rfl (by first | exact Or.inl rfl | exact Or.inr rfl)) (dgs_cons (dg_name (i := 5) sc_chained.nd rfl (by first | exact Or.inl rfl | exact Or.inr rfl)) dgs_nil))) (dss_cons (ds_set (i := 6) sc_chained.nd rfl (by first | exact Or.inl rfl | exact Or.inr rfl) (de_callB (call_min2 rfl) k_min2 (by rfl) B.n_min (by decide +kernel) (da_cons (DE.rv (de_item (R := RD) (de_peek (pv 2)) (DE.rv (de_var (pv 4))))) (da_cons (DE.rv (de_item (R := RD) (de_peek (pv 2)) (DE.rv (de_var (pv 5))))) da_nil))))
    (dss_one (ds_put2 rfl (pv 2) (pv 2) (DE.rv (de_var (pv 4))) (DE.rv (de_var (pv 5))) (de_tup (da_cons (de_var (pv 6)) (da_cons (de_var (pv 6)) da_nil)))))))))
    (dss_frz (i := 2) (dss_one (ds_ret (de_callC c_numbered hr (by omega) tk (by rfl) (da_cons (de_var (pv 2)) da_nil)))))))
theorem ok_chains {f : Addr} {fd : FuncData} (F : Fun K "chains" "chains" s_chains f fd) (hm : mg "chains" = some (.ref f)) (hb : Binds K fd ["size", "near"] []) (c_check_size : Cal P w K mg base κ "check_size" 2 1 m_check_size) (c_check_pairs : Cal P w K mg base κ "check_pairs" 2 2 m_check_pairs) (c_chained : Cal P w K mg base κ "chained" 2 2 m_chained) : Cal P w K mg base κ "chains" 3 2 m_chains := by
  refine Cal.of F hm hb (dfn (k := 2) F sc_chains fun cdv A outer s H E hr => ?_)
  have tk := takes_of (X := cxOf (L2.CX P w) P w K mg base n_chains "chains" (defScope s_chains) f cdv A outer s H E) rfl rfl rfl (E₁ := _) rfl
  have hp := passes_of (X := cxOf (L2.CX P w) P w K mg base n_chains "chains" (defScope s_chains) f cdv A outer s H E) (E₁ := _) rfl
  have hu := hu65 hr
  exact (dss_cons (ds_expr (de_callC c_check_size hr (by omega) tk (by rfl) (da_cons (de_var (pv 0)) da_nil)))
    (dss_cons (ds_expr (de_callC c_check_pairs hr (by omega) tk (by rfl) (da_cons (de_var (pv 0)) (da_cons (de_var (pv 1)) da_nil))))
    (dss_one (ds_ret (de_callC c_chained hr (by omega) tk (by rfl) (da_cons (de_var (pv 0)) (da_cons (de_var (pv 1)) da_nil)))))))
theorem ok_can_be {f : Addr} {fd : FuncData} (F : Fun K "can_be" "can_be" s_can_be f fd) (hm : mg "can_be" = some (.ref f)) (hb : Binds K fd ["size", "near", "apart"] []) (c_check_wishes : Cal P w K mg base κ "check_wishes" 3 3 m_check_wishes) (c_chained : Cal P w K mg base κ "chained" 2 2 m_chained) (B : Blt mg) : Cal P w K mg base κ "can_be" 4 3 m_can_be := by
  refine Cal.of F hm hb (dfn (k := 3) F sc_can_be fun cdv A outer s H E hr => ?_)
  have tk := takes_of (X := cxOf (L2.CX P w) P w K mg base n_can_be "can_be" (defScope s_can_be) f cdv A outer s H E) rfl rfl rfl (E₁ := _) rfl
  have hp := passes_of (X := cxOf (L2.CX P w) P w K mg base n_can_be "can_be" (defScope s_can_be) f cdv A outer s H E) (E₁ := _) rfl
  have hu := hu65 hr
  exact (dss_cons (ds_expr (de_callC c_check_wishes hr (by omega) tk (by rfl) (da_cons (de_var (pv 0)) (da_cons (de_var (pv 1)) (da_cons (de_var (pv 2)) da_nil)))))
    (dss_cons (ds_set (i := 3) sc_can_be.nd rfl (by first | exact Or.inl rfl | exact Or.inr rfl) (de_callC c_chained hr (by omega) tk (by rfl) (da_cons (de_var (pv 0)) (da_cons (de_var (pv 1)) da_nil))))
    (dss_one (ds_ret (de_callB (cr_all rfl) k_all (by rfl) B.n_all (by decide +kernel) (da_cons (DE.nv (de_lc (own := [("k", 4), ("j", 5)]) (t := (.tp [4, 5])) rfl sc_can_be.nd (DI.tr (di_list (de_var (pv 2)))) (blkOk_by (N := n_can_be) (sc := defScope s_can_be) (by decide +kernel)) (by decide) (fun _ _ _ _ _ => (dg_tup rfl (dgs_cons (dg_name (i := 4) sc_can_be.nd rfl (by first | exact Or.inl rfl | exact Or.inr rfl)) (dgs_cons (dg_name (i := 5) sc_can_be.nd rfl (by first | exact Or.inl rfl | exact Or.inr rfl)) dgs_nil)))) (fun _ _ _ _ _ => dts_nil) (fun _ _ _ _ _ => (de_cmp (op_neD hr.units) k_ne (DE.rv (de_item (R := RD) (DE.rv (de_var (pv 3))) (DE.rv (de_var (pv 4))))) (DE.rv (de_item (R := RD) (DE.rv (de_var (pv 3))) (DE.rv (de_var (pv 5))))) (nomark _))))) da_nil))))))
theorem ok_first_against {f : Addr} {fd : FuncData} (F : Fun K "first_against" "first_against" s_first_against f fd) (hm : mg "first_against" = some (.ref f)) (hb : Binds K fd ["size", "near", "apart"] []) (c_check_wishes : Cal P w K mg base κ "check_wishes" 3 3 m_check_wishes) (c_chained : Cal P w K mg base κ "chained" 2 2 m_chained) : Cal P w K mg base κ "first_against" 4 3 m_first_against := by
  refine Cal.of F hm hb (dfn (k := 3) F sc_first_against fun cdv A outer s H E hr => ?_)
  have tk := takes_of (X := cxOf (L2.CX P w) P w K mg base n_first_against "first_against" (defScope s_first_against) f cdv A outer s H E) rfl rfl rfl (E₁ := _) rfl
  have hp := passes_of (X := cxOf (L2.CX P w) P w K mg base n_first_against "first_against" (defScope s_first_against) f cdv A outer s H E) (E₁ := _) rfl
  have hu := hu65 hr
  exact (dss_cons (ds_expr (de_callC c_check_wishes hr (by omega) tk (by rfl) (da_cons (de_var (pv 0)) (da_cons (de_var (pv 1)) (da_cons (de_var (pv 2)) da_nil)))))
    (dss_cons (ds_set (i := 3) sc_first_against.nd rfl (by first | exact Or.inl rfl | exact Or.inr rfl) (de_callC c_chained hr (by omega) tk (by rfl) (da_cons (de_var (pv 0)) (da_cons (de_var (pv 1)) da_nil))))
    (dss_cons (ds_setOf (ps_lc (own := [("k", 5), ("j", 6)]) (t := (.tp [5, 6])) (i := 4) rfl sc_first_against.nd rfl rfl (sw_true rfl rfl rfl (by decide +kernel)) (DI.tr (di_list (de_var (pv 2)))) (blkOk_by (N := n_first_against) (sc := defScope s_first_against) (by decide +kernel)) (by decide) (fun _ _ _ _ _ => (dg_tup rfl (dgs_cons (dg_name (i := 5) sc_first_against.nd rfl (by first | exact Or.inl rfl | exact Or.inr rfl)) (dgs_cons (dg_name (i := 6) sc_first_against.nd rfl (by first | exact Or.inl rfl | exact Or.inr rfl)) dgs_nil)))) (fun _ _ _ _ _ => (dts_one (dt_cmp (op_eqD hr.units) (Op2.rv k_eq) (DE.rv (de_item (R := RD) (DE.rv (de_var (pv 3))) (DE.rv (de_var (pv 5))))) (DE.rv (de_item (R := RD) (DE.rv (de_var (pv 3))) (DE.rv (de_var (pv 6))))) (nomark _)))) (fun _ _ _ _ _ => (de_tup (da_cons (de_var (pv 5)) (da_cons (de_var (pv 6)) da_nil))))) (seal_read fun _ _ _ q => lc_read (by decide) q))
    (dss_one (ds_ret (de_if (dt_cmp (op_neD hr.units) (Op2.rv k_ne) (DE.rv (de_var (pv 4))) (DE.nv (de_lst da_nil)) (nomark _)) (de_item (R := RD) (DE.rv (de_var (pv 4))) (DE.rv de_int)) de_non))))))
theorem ok_shortest_chain {f : Addr} {fd : FuncData} (F : Fun K "shortest_chain" "shortest_chain" s_shortest_chain f fd) (hm : mg "shortest_chain" = some (.ref f)) (hb : Binds K fd ["size", "near", "first", "last"] []) (c_check_size : Cal P w K mg base κ "check_size" 2 1 m_check_size) (c_check_pairs : Cal P w K mg base κ "check_pairs" 2 2 m_check_pairs) (B : Blt mg) (X_NotFound : Exk K mg κ "NotFound") : Cal P w K mg base κ "shortest_chain" 3 4 m_shortest_chain := by
  refine Cal.of F hm hb (dfn (k := 2) F sc_shortest_chain fun cdv A outer s H E hr => ?_)
  have tk := takes_of (X := cxOf (L2.CX P w) P w K mg base n_shortest_chain "shortest_chain" (defScope s_shortest_chain) f cdv A outer s H E) rfl rfl rfl (E₁ := _) rfl
  have hp := passes_of (X := cxOf (L2.CX P w) P w K mg base n_shortest_chain "shortest_chain" (defScope s_shortest_chain) f cdv A outer s H E) (E₁ := _) rfl
  have hu := hu65 hr
  exact (dss_cons (ds_expr (de_callC c_check_size hr (by omega) tk (by rfl) (da_cons (de_var (pv 0)) da_nil)))
    (dss_cons (ds_expr (de_callC c_check_pairs hr (by omega) tk (by rfl) (da_cons (de_var (pv 0)) (da_cons (de_var (pv 1)) da_nil))))
    (dss_cons (ds_expr (de_callC c_check_pairs hr (by omega) tk (by rfl) (da_cons (de_var (pv 0)) (da_cons (DE.nd (de_lst (da_cons (de_tup (da_cons (de_var (pv 2)) (da_cons (de_var (pv 3)) da_nil))) da_nil))) da_nil))))
    (dss_cons (ds_set (i := 4) sc_shortest_chain.nd rfl (by first | exact Or.inl rfl | exact Or.inr rfl) (DE.nd (de_lst (da_cons (DE.nd (de_lst (da_cons (de_var (pv 2)) da_nil))) da_nil))))
    (dss_cons (ds_own (i := 5) sc_shortest_chain.nd rfl (by first | exact Or.inl rfl | exact Or.inr rfl) (de_lst (da_cons (de_var (pv 2)) da_nil)))
    (dss_cons (ds_for (t := (.nm 6)) hp rfl (di_range1 (by rfl) B.range (DE.rv (de_var (pv 0)))) (dg_name (i := 6) sc_shortest_chain.nd rfl (by first | exact Or.inl rfl | exact Or.inr rfl)) (dss_cons (ds_own (i := 7) sc_shortest_chain.nd rfl (by first | exact Or.inl rfl | exact Or.inr rfl) (de_lst da_nil))
    (dss_cons (ds_for (t := (.nm 8)) hp rfl (di_list (de_var (pv 4))) (dg_name (i := 8) sc_shortest_chain.nd rfl (by first | exact Or.inl rfl | exact Or.inr rfl)) (dss_cons (ds_if (dt_cmp (op_eqD hr.units) (Op2.rv k_eq) (DE.rv (de_item (R := RD) (DE.rv (de_var (pv 8))) (DE.rv (de_neg (DE.rv de_int))))) (DE.rv (de_var (pv 3))) (nomark _)) (dss_one (ds_ret (de_var (pv 8)))) dss_nil)
    (dss_one (ds_for (t := (.nm 9)) hp rfl (di_range1 (by rfl) B.range (DE.rv (de_var (pv 0)))) (dg_name (i := 9) sc_shortest_chain.nd rfl (by first | exact Or.inl rfl | exact Or.inr rfl)) (dss_one (ds_if (dt_w (dw_and (dt_cmp (op_notInD hu) (Op2.rv k_notIn) (DE.rv (de_var (pv 9))) (de_peek (pv 5)) (by with_unfolding_all rfl)) (dw_and1 (dt_w (dw_or (dt_cmp (or_in hu) (Op2.rv k_in) (DE.rv (de_tup (da_cons (de_item (R := RD) (DE.rv (de_var (pv 8))) (DE.rv (de_neg (DE.rv de_int)))) (da_cons (de_var (pv 9)) da_nil)))) (DE.rv (de_var (pv 1))) (by with_unfolding_all rfl)) (dw_or1 (dt_cmp (or_in hu) (Op2.rv k_in) (DE.rv (de_tup (da_cons (de_var (pv 9)) (da_cons (de_item (R := RD) (DE.rv (de_var (pv 8))) (DE.rv (de_neg (DE.rv de_int)))) da_nil)))) (DE.rv (de_var (pv 1))) (by with_unfolding_all rfl)))))))) (dss_cons (ds_app (i := 5) (pv 5) (de_var (pv 9)))
    (dss_one (ds_app (i := 7) (pv 7) (de_add (DE.rv (de_var (pv 8))) (DE.nv (de_lst (da_cons (de_var (pv 9)) da_nil))))))) dss_nil))))))
    (dss_frz (i := 7) (dss_one (ds_set (i := 4) sc_shortest_chain.nd rfl (by first | exact Or.inl rfl | exact Or.inr rfl) (de_var (pv 7))))))))
    (dss_one (ds_raise (x := "NotFound") rfl rfl tk PySem.F.excBase_ValueError (X_NotFound).xP (X_NotFound).gP (X_NotFound).kP (raises_own (X_NotFound).bP (X_NotFound).tP) (by rfl)))))))))
theorem ok__law_error {f : Addr} {fd : FuncData} (F : Fun K "_law_error" "_law_error" s__law_error f fd) (hm : mg "_law_error" = some (.ref f)) (hb : Binds K fd ["_law_caught"] []) (B : Blt mg) (Q : Erf K mg) : Cal P w K mg base κ "_law_error" 1 1 m__law_error := by
  refine Cal.of F hm hb (dfn (k := 0) F sc__law_error fun cdv A outer s H E hr => ?_)
  have tk := takes_of (X := cxOf (L2.CX P w) P w K mg base n__law_error "_law_error" (defScope s__law_error) f cdv A outer s H E) rfl rfl rfl (E₁ := _) rfl
  have hp := passes_of (X := cxOf (L2.CX P w) P w K mg base n__law_error "_law_error" (defScope s__law_error) f cdv A outer s H E) (E₁ := _) rfl
  have hu := hu65 hr
  exact (dss_cons (ds_set (i := 1) sc__law_error.nd rfl (by first | exact Or.inl rfl | exact Or.inr rfl) (DE.nd (de_lst (da_cons (de_isE (Q.i_BadGrouping).choose_spec.2 (DE.rv (de_var (pv 0))) (by rfl) B.isinstance (by rfl) (Q.i_BadGrouping).choose_spec.1) (da_cons (de_isE (Q.i_BadNumber).choose_spec.2 (DE.rv (de_var (pv 0))) (by rfl) B.isinstance (by rfl) (Q.i_BadNumber).choose_spec.1) (da_cons (de_isE (Q.i_BadPairs).choose_spec.2 (DE.rv (de_var (pv 0))) (by rfl) B.isinstance (by rfl) (Q.i_BadPairs).choose_spec.1) da_nil))))))
    (dss_cons (ds_set (i := 1) sc__law_error.nd rfl (by first | exact Or.inl rfl | exact Or.inr rfl) (de_add (DE.rv (de_var (pv 1))) (DE.nv (de_lst (da_cons (de_isE (Q.i_BadText).choose_spec.2 (DE.rv (de_var (pv 0))) (by rfl) B.isinstance (by rfl) (Q.i_BadText).choose_spec.1) (da_cons (de_isE (Q.i_NotFound).choose_spec.2 (DE.rv (de_var (pv 0))) (by rfl) B.isinstance (by rfl) (Q.i_NotFound).choose_spec.1) da_nil))))))
    (dss_cons (ds_if (dt_w (dw_or (dt_cmp (op_neD hr.units) (Op2.rv k_ne) (DE.rv (de_meth (R := RD) k_countB PySem.F.plainAttrs_list PySem.F.slot_list_count PySem.F.type_list_count mt_bcount (DE.rv (de_var (pv 1))) (da_cons (DE.rv de_bl) da_nil))) (DE.rv de_int) (nomark _)) (dw_or (dt_not (dt_val (DE.rv (de_isE (Q.i_GroupError).choose_spec.2 (DE.rv (de_var (pv 0))) (by rfl) B.isinstance (by rfl) (Q.i_GroupError).choose_spec.1)))) (dw_or1 (dt_not (dt_val (DE.rv (de_isEB (T := "ValueError") (Q.v_ValueError).2 (DE.rv (de_var (pv 0))) (by rfl) B.isinstance (by rfl) (Q.v_ValueError).1 (by decide +kernel))))))))) (dss_one (ds_ret de_str)) dss_nil)
    (dss_one (ds_ret (de_item (R := RD) (DE.nv (de_lst (da_cons de_str (da_cons de_str (da_cons de_str (da_cons de_str (da_cons de_str da_nil))))))) (DE.rv (de_meth (R := RD) k_index PySem.F.plainAttrs_list PySem.F.slot_list_index PySem.F.type_list_index (mt_indexD hu) (DE.rv (de_var (pv 1))) (da_cons (DE.rv de_bl) da_nil)))))))))
theorem ok__law_chain {f : Addr} {fd : FuncData} (F : Fun K "_law_chain" "_law_chain" s__law_chain f fd) (hm : mg "_law_chain" = some (.ref f)) (hb : Binds K fd ["_law_size", "_law_close", "_law_first", "_law_last"] []) (c_shortest_chain : Cal P w K mg base κ "shortest_chain" 3 4 m_shortest_chain) (c__law_error : Cal P w K mg base κ "_law_error" 1 1 m__law_error) (Q : Erf K mg) : Cal P w K mg base κ "_law_chain" 4 4 m__law_chain := by
  refine Cal.of F hm hb (dfn (k := 3) F sc__law_chain fun cdv A outer s H E hr => ?_)
  have tk := takes_of (X := cxOf (L2.CX P w) P w K mg base n__law_chain "_law_chain" (defScope s__law_chain) f cdv A outer s H E) rfl rfl rfl (E₁ := _) rfl
  have hp := passes_of (X := cxOf (L2.CX P w) P w K mg base n__law_chain "_law_chain" (defScope s__law_chain) f cdv A outer s H E) (E₁ := _) rfl
  have hu := hu65 hr
  exact (dss_cons (ds_set (i := 4) sc__law_chain.nd rfl (by first | exact Or.inl rfl | exact Or.inr rfl) de_non)
    (dss_cons (ds_set (i := 5) sc__law_chain.nd rfl (by first | exact Or.inl rfl | exact Or.inr rfl) de_non)
    (dss_cons (ds_try (i := 6) rfl rfl rfl sc__law_chain.nd rfl rfl (names_of (by rfl) (Q.t_GroupError).choose_spec.1) tk (Q.t_GroupError).choose_spec.2 (fun _ _ _ tk hp => (dss_one (ds_set (i := 4) sc__law_chain.nd rfl (by first | exact Or.inl rfl | exact Or.inr rfl) (de_callC c_shortest_chain hr (by omega) tk (by rfl) (da_cons (de_var (pv 0)) (da_cons (de_var (pv 1)) (da_cons (de_var (pv 2)) (da_cons (de_var (pv 3)) da_nil)))))))) (fun _ _ => (dss_one (ds_set (i := 5) sc__law_chain.nd rfl (by first | exact Or.inl rfl | exact Or.inr rfl) (de_var (pv 6))))))
    (dss_one (ds_ret (de_if (dt_cmp or_is (Op2.rv k_is) (DE.rv (de_var (pv 5))) (DE.rv de_non) (nomark _)) (de_var (pv 4)) (de_callC c__law_error hr (by omega) tk (by rfl) (da_cons (de_var (pv 5)) da_nil))))))))
end
section
variable [Ec] {P : Program} {w : World} {K : PySem.W.Frag} {mg : Str → Option Value} {base : Heap} {κ : Kn}
theorem ok_law {f fS : Addr} {fd fdS : FuncData} (F : Fun K "law" "law" s_law f fd) (GS : FnOk P w K mg base CX0 1 fS fdS ["_law_script"] (spStart K)) (gS : mg "_law_start" = some (.ref fS)) (kS : PySem.W.keepIn K (.ref fS) = true) (bS : Binds K fdS ["_law_script"] []) (pure : ∀ ns : List Int, DW (world0 ns) → ∃ w', f_law (slots0 13) (world0 ns) = .ret (.bool true) w') (c__law_draw : Cal P w K mg base κ "_law_draw" 1 2 m__law_draw) (c__law_chain : Cal P w K mg base κ "_law_chain" 4 4 m__law_chain) (c_chains : Cal P w K mg base κ "chains" 3 2 m_chains) (c_can_be : Cal P w K mg base κ "can_be" 4 3 m_can_be) (c_first_against : Cal P w K mg base κ "first_against" 4 3 m_first_against) (B : Blt mg) : FnOk P w K mg base (L2.CX P w) 5 f fd ["_law_script"] (spLaw K) := by
  refine law_ok (κ := κ) (k := 4) F sc_law (by decide) rfl GS (fun cdv A outer s H E hr => ?_) (fun cdv A outer s H E hr => ?_) pure
  · exact ps_set (i := 1) sc_law.nd rfl (by first | exact Or.inl rfl | exact Or.inr rfl) (pe_call GS (hr.mono (by omega)) (by rfl) gS kS bS .nil pass0 (pa_cons (pv 0) pa_nil))
  · have tk := takes_of (X := cxOf (L2.CX P w) P w K mg base n_law "law" (defScope s_law) f cdv A outer s H E) rfl rfl rfl (E₁ := _) rfl
    have hp := passes_of (X := cxOf (L2.CX P w) P w K mg base n_law "law" (defScope s_law) f cdv A outer s H E) (E₁ := _) rfl
    have hu := hu65 hr
    exact (dss_cons (ds_set (i := 2) sc_law.nd rfl (by first | exact Or.inl rfl | exact Or.inr rfl) (de_add (DE.rv de_int) (DE.rv (de_callC c__law_draw hr (by omega) tk (by rfl) (da_cons (de_var (pv 1)) (da_cons de_int da_nil))))))
    (dss_cons (ds_own (i := 3) sc_law.nd rfl (by first | exact Or.inl rfl | exact Or.inr rfl) (de_lst da_nil))
    (dss_cons (ds_for (t := (.nm 4)) hp rfl (di_range1 (by rfl) B.range (DE.rv (de_callC c__law_draw hr (by omega) tk (by rfl) (da_cons (de_var (pv 1)) (da_cons de_int da_nil))))) (dg_name (i := 4) sc_law.nd rfl (by first | exact Or.inl rfl | exact Or.inr rfl)) (dss_cons (ds_set (i := 5) sc_law.nd rfl (by first | exact Or.inl rfl | exact Or.inr rfl) (de_callC c__law_draw hr (by omega) tk (by rfl) (da_cons (de_var (pv 1)) (da_cons (de_var (pv 2)) da_nil))))
    (dss_one (ds_app (i := 3) (pv 3) (de_tup (da_cons (de_var (pv 5)) (da_cons (de_op op_mod k_mod (DE.rv (de_add (DE.rv (de_add (DE.rv (de_var (pv 5))) (DE.rv de_int))) (DE.rv (de_callC c__law_draw hr (by omega) tk (by rfl) (da_cons (de_var (pv 1)) (da_cons (de_op op_sub k_sub (DE.rv (de_var (pv 2))) (DE.rv de_int)) da_nil)))))) (DE.rv (de_var (pv 2)))) da_nil)))))))
    (dss_cons (ds_set (i := 6) sc_law.nd rfl (by first | exact Or.inl rfl | exact Or.inr rfl) (de_callC c__law_draw hr (by omega) tk (by rfl) (da_cons (de_var (pv 1)) (da_cons (de_var (pv 2)) da_nil))))
    (dss_cons (ds_set (i := 7) sc_law.nd rfl (by first | exact Or.inl rfl | exact Or.inr rfl) (de_op op_mod k_mod (DE.rv (de_add (DE.rv (de_add (DE.rv (de_var (pv 6))) (DE.rv de_int))) (DE.rv (de_callC c__law_draw hr (by omega) tk (by rfl) (da_cons (de_var (pv 1)) (da_cons (de_op op_sub k_sub (DE.rv (de_var (pv 2))) (DE.rv de_int)) da_nil)))))) (DE.rv (de_var (pv 2)))))
    (dss_cons (ds_dct1 (i := 8) sc_law.nd rfl (by first | exact Or.inl rfl | exact Or.inr rfl) (de_var (pv 6)) de_int (by rfl))
    (dss_cons (ds_for (t := (.nm 9)) hp rfl (di_range1 (by rfl) B.range (DE.rv (de_var (pv 2)))) (dg_name (i := 9) sc_law.nd rfl (by first | exact Or.inl rfl | exact Or.inr rfl)) (dss_one (ds_for (t := (.tp [4, 10])) hp rfl (di_list (de_add (de_peek (pv 3)) (DE.nv (de_lc (own := [("_law_k", 4), ("_law_j", 10)]) (t := (.tp [4, 10])) rfl sc_law.nd (di_own (de_peek (pv 3))) (blkOk_by (N := n_law) (sc := defScope s_law) (by decide +kernel)) (by decide) (fun _ _ _ _ _ => (dg_tup rfl (dgs_cons (dg_name (i := 4) sc_law.nd rfl (by first | exact Or.inl rfl | exact Or.inr rfl)) (dgs_cons (dg_name (i := 10) sc_law.nd rfl (by first | exact Or.inl rfl | exact Or.inr rfl)) dgs_nil)))) (fun _ _ _ _ _ => dts_nil) (fun _ _ _ _ _ => (de_tup (da_cons (de_var (pv 10)) (da_cons (de_var (pv 4)) da_nil)))))))) (dg_tup rfl (dgs_cons (dg_name (i := 4) sc_law.nd rfl (by first | exact Or.inl rfl | exact Or.inr rfl)) (dgs_cons (dg_name (i := 10) sc_law.nd rfl (by first | exact Or.inl rfl | exact Or.inr rfl)) dgs_nil))) (dss_one (ds_if (dt_w (dw_and (dt_din (hu1 hu) (pv 8) (de_var (pv 4)) (by with_unfolding_all rfl)) (dw_and1 (dt_cmp op_gt (Op2.rv k_gt) (DE.rv (de_dget2 (hu1 hu) (pv 8) (de_var (pv 10)) (de_var (pv 2)) ⟨rfl, rfl, rfl, rfl⟩)) (DE.rv (de_add (DE.rv (de_dget (hu1 hu) (pv 8) (de_var (pv 4)) (fun _ _ => rfl))) (DE.rv de_int))) (nomark _))))) (dss_one (ds_dput (hu1 hu) (pv 8) (de_var (pv 10)) (de_add (DE.rv (de_dget (hu1 hu) (pv 8) (de_var (pv 4)) (fun _ _ => rfl))) (DE.rv de_int)) (by rfl))) dss_nil)))))
    (dss_frz (i := 3) (dss_cons (ds_set (i := 11) sc_law.nd rfl (by first | exact Or.inl rfl | exact Or.inr rfl) (de_callC c__law_chain hr (by omega) tk (by rfl) (da_cons (de_var (pv 2)) (da_cons (de_var (pv 3)) (da_cons (de_var (pv 6)) (da_cons (de_var (pv 7)) da_nil))))))
    (dss_cons (ds_set (i := 12) sc_law.nd rfl (by first | exact Or.inl rfl | exact Or.inr rfl) (de_callC c_chains hr (by omega) tk (by rfl) (da_cons (de_var (pv 2)) (da_cons (de_var (pv 3)) da_nil))))
    (dss_cons (ds_if (dt_cmp (op_neD hr.units) (Op2.rv k_ne) (DE.rv (de_cmp (op_eqD hr.units) k_eq (DE.rv (de_item (R := RD) (DE.rv (de_var (pv 12))) (DE.rv (de_var (pv 6))))) (DE.rv (de_item (R := RD) (DE.rv (de_var (pv 12))) (DE.rv (de_var (pv 7))))) (nomark _))) (DE.rv (de_din (hu1 hu) (pv 8) (de_var (pv 7)) (by with_unfolding_all rfl))) (nomark _)) (dss_one (ds_ret de_bl)) dss_nil)
    (dss_cons (ds_if (dt_dnotin (hu1 hu) (pv 8) (de_var (pv 7)) (by with_unfolding_all rfl)) (dss_one (ds_ret (de_cmp (op_eqD hr.units) k_eq (DE.rv (de_var (pv 11))) (DE.rv de_str) (nomark _)))) dss_nil)
    (dss_cons (ds_if (dt_w (dw_or (dt_not (dt_val (DE.rv (de_isi isiok_list (DE.rv (de_var (pv 11))) (by rfl) B.isinstance (by rfl) B.n_list (by decide +kernel))))) (dw_or (dt_cmp (op_neD hr.units) (Op2.rv k_ne) (DE.rv (de_item (R := RD) (DE.rv (de_var (pv 11))) (DE.rv de_int))) (DE.rv (de_var (pv 6))) (nomark _)) (dw_or (dt_cmp (op_neD hr.units) (Op2.rv k_ne) (DE.rv (de_item (R := RD) (DE.rv (de_var (pv 11))) (DE.rv (de_neg (DE.rv de_int))))) (DE.rv (de_var (pv 7))) (nomark _)) (dw_or1 (dt_cmp (op_neD hr.units) (Op2.rv k_ne) (DE.rv (de_callB call_len k_len (by rfl) B.n_len (by decide +kernel) (da_cons (DE.rv (de_var (pv 11))) da_nil))) (DE.rv (de_add (DE.rv (de_dget (hu1 hu) (pv 8) (de_var (pv 7)) (fun _ _ => rfl))) (DE.rv de_int))) (nomark _))))))) (dss_one (ds_ret de_bl)) dss_nil)
    (dss_cons (ds_for (t := (.tp [4, 10])) hp rfl (di_zip (by rfl) B.zip (da_cons (de_var (pv 11)) (da_cons (de_slice (DE.rv (de_var (pv 11))) (do_some de_int) do_none) da_nil))) (dg_tup rfl (dgs_cons (dg_name (i := 4) sc_law.nd rfl (by first | exact Or.inl rfl | exact Or.inr rfl)) (dgs_cons (dg_name (i := 10) sc_law.nd rfl (by first | exact Or.inl rfl | exact Or.inr rfl)) dgs_nil))) (dss_one (ds_if (dt_w (dw_and (dt_cmp (op_notInD hu) (Op2.rv k_notIn) (DE.rv (de_tup (da_cons (de_var (pv 4)) (da_cons (de_var (pv 10)) da_nil)))) (DE.rv (de_var (pv 3))) (by with_unfolding_all rfl)) (dw_and1 (dt_cmp (op_notInD hu) (Op2.rv k_notIn) (DE.rv (de_tup (da_cons (de_var (pv 10)) (da_cons (de_var (pv 4)) da_nil)))) (DE.rv (de_var (pv 3))) (by with_unfolding_all rfl))))) (dss_one (ds_ret de_bl)) dss_nil)))
    (dss_one (ds_ret (de_and (DE.rv (de_cmp (op_eqD hr.units) k_eq (DE.rv (de_callC c_first_against hr (by omega) tk (by rfl) (da_cons (de_var (pv 2)) (da_cons (de_var (pv 3)) (da_cons (DE.nd (de_lst (da_cons (de_tup (da_cons (de_var (pv 6)) (da_cons (de_var (pv 7)) da_nil))) da_nil))) da_nil))))) (DE.rv (de_tup (da_cons (de_var (pv 6)) (da_cons (de_var (pv 7)) da_nil)))) (nomark _))) (de_one (de_cmp or_is k_is (DE.rv (de_callC c_can_be hr (by omega) tk (by rfl) (da_cons (de_var (pv 2)) (da_cons (de_var (pv 3)) (da_cons (DE.nd (de_lst (da_cons (de_tup (da_cons (de_var (pv 7)) (da_cons (de_var (pv 6)) da_nil))) da_nil))) da_nil))))) (DE.rv de_bl) (nomark _))))))))))))))))))))
end
end Pg

/-! Groupings as rows, numbered by first sight: plain facts. -/
namespace DL
def rgsB : Int → List Int → Bool
  | _, [] => true
  | m, g :: r => decide (0 ≤ g ∧ g ≤ m + 1) && rgsB (max m g) r
/-- a grouping of at most seven things -/
def isG (xs : List Int) : Bool := decide (1 ≤ xs.length ∧ xs.length ≤ 7) && rgsB (-1) xs
section
variable {α : Type} [DecidableEq α]
/-- the unlike ones, by first sight, after those known -/
def ddF : List α → List α → List α
  | k, [] => k
  | k, x :: r => ddF (if x ∈ k then k else k ++ [x]) r
def dd (xs : List α) : List α := ddF [] xs
def numF : List α → List α → List Int
  | _, [] => []
  | k, x :: r => (idx x (if x ∈ k then k else k ++ [x]) : Int) :: numF (if x ∈ k then k else k ++ [x]) r
/-- the labels numbered by first sight -/
def number (xs : List α) : List Int := numF [] xs
theorem ix_lt {a : α} : ∀ {xs : List α}, a ∈ xs → idx a xs < xs.length
  | [], h => by simp at h
  | x :: r, h => by
    unfold idx
    by_cases e : x = a
    · rw [if_pos e]; simp
    · rw [if_neg e, List.length_cons]
      rcases List.mem_cons.mp h with q | q
      · exact absurd q.symm e
      · have := ix_lt q; omega
theorem ix_get {a : α} : ∀ {xs : List α}, a ∈ xs → xs[idx a xs]? = some a
  | [], h => by simp at h
  | x :: r, h => by
    unfold idx
    by_cases e : x = a
    · rw [if_pos e, e]; rfl
    · rw [if_neg e]
      rcases List.mem_cons.mp h with q | q
      · exact absurd q.symm e
      · simpa using ix_get q
theorem idx_app {a : α} : ∀ {xs ys : List α}, a ∈ xs → idx a (xs ++ ys) = idx a xs
  | [], _, h => by simp at h
  | x :: r, ys, h => by
    rw [List.cons_append]
    unfold idx
    by_cases e : x = a
    · rw [if_pos e, if_pos e]
    · rw [if_neg e, if_neg e]
      rcases List.mem_cons.mp h with q | q
      · exact absurd q.symm e
      · rw [idx_app q]
theorem idx_new {a : α} : ∀ {xs : List α}, a ∉ xs → idx a (xs ++ [a]) = xs.length
  | [], _ => by simp [idx]
  | x :: r, h => by
    rw [List.cons_append]
    unfold idx
    have h1 : x ≠ a := fun e => h (by rw [e]; exact List.mem_cons_self)
    have h2 : a ∉ r := fun e => h (List.mem_cons_of_mem _ e)
    rw [if_neg h1, idx_new h2, List.length_cons]
theorem idx_inj {a b : α} {xs : List α} (ha : a ∈ xs) (hb : b ∈ xs) (h : idx a xs = idx b xs) : a = b := by
  have h1 := ix_get ha
  have h2 := ix_get hb
  rw [h, h2] at h1
  exact (Option.some.inj h1).symm
theorem ddF_pre : ∀ (xs k : List α), k <+: ddF k xs
  | [], k => List.prefix_refl _
  | x :: r, k => by
    unfold ddF
    refine List.IsPrefix.trans ?_ (ddF_pre r _)
    by_cases h : x ∈ k
    · rw [if_pos h]; exact List.prefix_refl _
    · rw [if_neg h]; exact List.prefix_append _ _
theorem ddF_mem : ∀ (xs k : List α) (x : α), x ∈ ddF k xs ↔ x ∈ k ∨ x ∈ xs
  | [], k, x => by simp [ddF]
  | y :: r, k, x => by
    unfold ddF
    rw [ddF_mem r _ x]
    by_cases h : y ∈ k
    · rw [if_pos h]
      constructor
      · rintro (a | a)
        · exact Or.inl a
        · exact Or.inr (List.mem_cons_of_mem _ a)
      · rintro (a | a)
        · exact Or.inl a
        · rcases List.mem_cons.mp a with e | e
          · rw [e]; exact Or.inl h
          · exact Or.inr e
    · rw [if_neg h, List.mem_append, List.mem_singleton, List.mem_cons]
      constructor
      · rintro ((a | a) | a)
        · exact Or.inl a
        · exact Or.inr (Or.inl a)
        · exact Or.inr (Or.inr a)
      · rintro (a | a | a)
        · exact Or.inl (Or.inl a)
        · exact Or.inl (Or.inr a)
        · exact Or.inr a
theorem ddF_nodup : ∀ (xs k : List α), k.Nodup → (ddF k xs).Nodup
  | [], k, h => h
  | x :: r, k, h => by
    unfold ddF
    by_cases q : x ∈ k
    · rw [if_pos q]; exact ddF_nodup r k h
    · rw [if_neg q]
      refine ddF_nodup r _ ?_
      rw [List.nodup_append]
      refine ⟨h, by simp, ?_⟩
      intro a ha b hb e
      rw [List.mem_singleton] at hb
      rw [e, hb] at ha
      exact q ha
theorem dd_mem {xs : List α} {x : α} : x ∈ dd xs ↔ x ∈ xs := by
  unfold dd
  rw [ddF_mem]
  simp
theorem numF_eq : ∀ (xs k : List α), numF k xs = xs.map fun x => (idx x (ddF k xs) : Int)
  | [], k => rfl
  | x :: r, k => by
    unfold numF ddF
    rw [numF_eq r, List.map_cons]
    congr 1
    have hm : x ∈ (if x ∈ k then k else k ++ [x]) := by
      by_cases h : x ∈ k
      · rw [if_pos h]; exact h
      · rw [if_neg h]; simp
    obtain ⟨t, ht⟩ := ddF_pre r (if x ∈ k then k else k ++ [x])
    rw [← ht, idx_app hm]
theorem number_eq (xs : List α) : number xs = xs.map fun x => (idx x (dd xs) : Int) := numF_eq xs []
@[simp] theorem number_len (xs : List α) : (number xs).length = xs.length := by rw [number_eq, List.length_map]
theorem numF_rgs : ∀ (xs k : List α), rgsB ((k.length : Int) - 1) (numF k xs) = true
  | [], k => rfl
  | x :: r, k => by
    unfold numF rgsB
    by_cases h : x ∈ k
    · have h1 := ix_lt h
      rw [if_pos h]
      have e : max ((k.length : Int) - 1) (idx x k : Int) = (k.length : Int) - 1 := by omega
      rw [e, numF_rgs r k, Bool.and_true]
      exact decide_eq_true (by omega)
    · rw [if_neg h, idx_new h]
      have e : max ((k.length : Int) - 1) (k.length : Int) = ((k ++ [x]).length : Int) - 1 := by
        rw [List.length_append, List.length_singleton]
        omega
      rw [e, numF_rgs r (k ++ [x]), Bool.and_true]
      exact decide_eq_true (by omega)
theorem number_rgs (xs : List α) : rgsB (-1) (number xs) = true := numF_rgs xs []
theorem number_isG {xs : List α} (h0 : 1 ≤ xs.length) (h1 : xs.length ≤ 7) : isG (number xs) = true := by
  unfold isG
  rw [number_rgs, Bool.and_true]
  rw [number_len]
  exact decide_eq_true ⟨h0, h1⟩
end
/-- the same things stand together -/
def Same {α β : Type} (a : List α) (b : List β) : Prop := a.length = b.length ∧ ∀ i j : Nat, i < a.length → j < a.length → (a[i]? = a[j]? ↔ b[i]? = b[j]?)
theorem Same.refl {α : Type} (a : List α) : Same a a := ⟨rfl, fun _ _ _ _ => Iff.rfl⟩
theorem Same.symm {α β : Type} {a : List α} {b : List β} (h : Same a b) : Same b a := ⟨h.1.symm, fun i j hi hj => (h.2 i j (by rw [h.1]; exact hi) (by rw [h.1]; exact hj)).symm⟩
theorem Same.trans {α β γ : Type} {a : List α} {b : List β} {c : List γ} (h : Same a b) (k : Same b c) : Same a c :=
  ⟨h.1.trans k.1, fun i j hi hj => (h.2 i j hi hj).trans (k.2 i j (by rw [← h.1]; exact hi) (by rw [← h.1]; exact hj))⟩
theorem same_map {α β : Type} {xs : List α} {f : α → β} (h : ∀ x ∈ xs, ∀ y ∈ xs, f x = f y → x = y) : Same xs (xs.map f) := by
  refine ⟨by rw [List.length_map], fun i j hi hj => ?_⟩
  rw [List.getElem?_map, List.getElem?_map, List.getElem?_eq_getElem hi, List.getElem?_eq_getElem hj]
  constructor
  · intro e
    rw [Option.some.inj e]
  · intro e
    rw [h _ (List.getElem_mem hi) _ (List.getElem_mem hj) (Option.some.inj e)]
theorem number_same {α : Type} [DecidableEq α] (xs : List α) : Same xs (number xs) := by
  rw [number_eq]
  refine same_map fun x hx y hy h => idx_inj (dd_mem.mpr hx) (dd_mem.mpr hy) (by omega)
/-- a row numbered by first sight is told by what stands together -/
theorem rgs_uniq : ∀ (a b p : List Int) (m : Int), -1 ≤ m → (∀ v, 0 ≤ v → v ≤ m → v ∈ p) → (∀ v ∈ p, v ≤ m) → rgsB m a = true → rgsB m b = true → Same (p ++ a) (p ++ b) → a = b
  | [], b, p, m, _, _, _, _, _, h => by
    have := h.1
    rw [List.length_append, List.length_append, List.length_nil] at this
    exact (List.length_eq_zero_iff.mp (by omega)).symm
  | x :: a, b, p, m, hm, hp, hq, ha, hb, h => by
    cases b with
    | nil =>
      have := h.1
      rw [List.length_append, List.length_append, List.length_nil, List.length_cons] at this
      omega
    | cons y b =>
      unfold rgsB at ha hb
      rw [Bool.and_eq_true, decide_eq_true_eq] at ha hb
      have hl : p.length < (p ++ x :: a).length := by rw [List.length_append, List.length_cons]; omega
      have gx : (p ++ x :: a)[p.length]? = some x := by simp
      have gy : (p ++ y :: b)[p.length]? = some y := by simp
      have gp : ∀ i, i < p.length → (p ++ x :: a)[i]? = p[i]? ∧ (p ++ y :: b)[i]? = p[i]? := fun i hi => ⟨List.getElem?_append_left hi, List.getElem?_append_left hi⟩
      have key : ∀ v ∈ p, v = x ↔ v = y := by
        intro v hv
        obtain ⟨i, hi, e⟩ := List.mem_iff_getElem.mp hv
        have hs := h.2 i p.length (by omega) hl
        rw [gx, gy, (gp i hi).1, (gp i hi).2, List.getElem?_eq_getElem hi, e] at hs
        constructor
        · intro q; exact Option.some.inj (hs.mp (by rw [q]))
        · intro q; exact Option.some.inj (hs.mpr (by rw [q]))
      have exy : x = y := by
        by_cases h1 : x ≤ m
        · exact (key x (hp x ha.1.1 h1)).mp rfl
        · by_cases h2 : y ≤ m
          · exact ((key y (hp y hb.1.1 h2)).mpr rfl).symm
          · omega
      subst exy
      have e1 : p ++ x :: a = (p ++ [x]) ++ a := by simp
      have e2 : p ++ x :: b = (p ++ [x]) ++ b := by simp
      rw [rgs_uniq a b (p ++ [x]) (max m x) (by omega) (fun v h0 h1 => ?_) (fun v hv => ?_) ha.2 hb.2 (by rw [← e1, ← e2]; exact h)]
      · by_cases q : v ≤ m
        · exact List.mem_append_left _ (hp v h0 q)
        · have : v = x := by omega
          rw [this]
          simp
      · rcases List.mem_append.mp hv with q | q
        · have := hq v q
          omega
        · rw [List.mem_singleton] at q
          omega
theorem rgs_eq {a b : List Int} (ha : rgsB (-1) a = true) (hb : rgsB (-1) b = true) (h : Same a b) : a = b :=
  rgs_uniq a b [] (-1) (by omega) (fun v h0 h1 => by omega) (fun v hv => by simp at hv) ha hb h
/-- what is numbered by first sight already stays -/
theorem number_id {a : List Int} (ha : rgsB (-1) a = true) : number a = a := rgs_eq (number_rgs a) ha (number_same a).symm
theorem number_congr {α β : Type} [DecidableEq α] [DecidableEq β] {a : List α} {b : List β} (h : Same a b) : number a = number b :=
  rgs_eq (number_rgs a) (number_rgs b) ((number_same a).symm.trans (h.trans (number_same b)))
theorem number_of {α : Type} [DecidableEq α] {a : List α} {b : List Int} (hb : rgsB (-1) b = true) (h : Same a b) : number a = b :=
  rgs_eq (number_rgs a) hb ((number_same a).symm.trans h)
section
variable {α : Type} [DecidableEq α]
theorem ddF_snoc : ∀ (xs k : List α) (x : α), ddF k (xs ++ [x]) = if x ∈ ddF k xs then ddF k xs else ddF k xs ++ [x]
  | [], k, x => rfl
  | y :: r, k, x => by
    rw [List.cons_append]
    unfold ddF
    exact ddF_snoc r _ x
theorem numF_snoc : ∀ (xs k : List α) (x : α), numF k (xs ++ [x]) = numF k xs ++ [(idx x (ddF k (xs ++ [x])) : Int)]
  | [], k, x => rfl
  | y :: r, k, x => by
    rw [List.cons_append]
    unfold numF ddF
    rw [numF_snoc r _ x]
    rfl
theorem number_snoc (xs : List α) (x : α) : number (xs ++ [x]) = number xs ++ [(idx x (dd (xs ++ [x])) : Int)] := numF_snoc xs [] x
theorem dd_snoc (xs : List α) (x : α) : dd (xs ++ [x]) = if x ∈ dd xs then dd xs else dd xs ++ [x] := ddF_snoc xs [] x
theorem numF_max : ∀ (xs k : List α), (numF k xs).foldl max ((k.length : Int) - 1) = ((ddF k xs).length : Int) - 1
  | [], k => rfl
  | x :: r, k => by
    unfold numF ddF
    rw [List.foldl_cons, ← numF_max r]
    congr 1
    by_cases h : x ∈ k
    · have := ix_lt h
      rw [if_pos h]
      omega
    · rw [if_neg h, idx_new h, List.length_append, List.length_singleton]
      omega
theorem number_max (xs : List α) : (number xs).foldl max (-1) = ((dd xs).length : Int) - 1 := numF_max xs []
theorem idx_take {xs : List α} {i : Nat} {x : α} (h : x ∈ xs.take i) : idx x xs = idx x (xs.take i) := by
  have e : xs = xs.take i ++ xs.drop i := (List.take_append_drop i xs).symm
  rw [e, List.take_append_drop]
  conv => lhs; rw [e]
  exact idx_app h
theorem idx_first : ∀ {xs : List α} {i : Nat} {x : α}, xs[i]? = some x → x ∉ xs.take i → idx x xs = i
  | [], i, x, h, _ => by simp at h
  | y :: r, 0, x, h, _ => by
    simp at h
    unfold idx
    rw [if_pos h]
  | y :: r, i + 1, x, h, n => by
    rw [List.take_succ_cons] at n
    rw [List.getElem?_cons_succ] at h
    unfold idx
    have h1 : y ≠ x := fun e => n (by rw [e]; exact List.mem_cons_self)
    rw [if_neg h1, idx_first h fun e => n (List.mem_cons_of_mem _ e)]
end
theorem maxI_cons (a : Int) (xs : List Int) : maxI (a :: xs) = xs.foldl max a := rfl
end DL

/-! Groupings as rows: all of them, their groups. -/
namespace DL
theorem rgsB_snoc : ∀ (a : List Int) (m g : Int), rgsB m (a ++ [g]) = (rgsB m a && decide (0 ≤ g ∧ g ≤ a.foldl max m + 1))
  | [], m, g => by simp only [List.nil_append, rgsB, Bool.and_true, Bool.true_and, List.foldl_nil]; exact decide_eq_decide.mpr Iff.rfl
  | x :: r, m, g => by
    rw [List.cons_append]
    unfold rgsB
    rw [rgsB_snoc r, List.foldl_cons, Bool.and_assoc]
theorem foldl_max_ge : ∀ (a : List Int) (m : Int), m ≤ a.foldl max m
  | [], m => Int.le_refl _
  | x :: r, m => by
    rw [List.foldl_cons]
    have := foldl_max_ge r (max m x)
    omega
theorem mem_rgs : ∀ (n : Nat) (row : List Int), row.length = n → rgsB (-1) row = true → row ∈ rgs n
  | 0, row, h, _ => by
    rw [List.length_eq_zero_iff.mp h]
    exact List.mem_singleton.mpr rfl
  | n + 1, row, h, hr => by
    have hne : row ≠ [] := fun e => by rw [e] at h; simp at h
    have e : row = row.dropLast ++ [row.getLast hne] := (List.dropLast_concat_getLast hne).symm
    rw [e, rgsB_snoc, Bool.and_eq_true, decide_eq_true_eq] at hr
    have ih := mem_rgs n row.dropLast (by rw [List.length_dropLast, h]; omega) hr.1
    unfold rgs
    rw [List.mem_flatMap]
    refine ⟨row.dropLast, ih, ?_⟩
    rw [List.mem_map]
    refine ⟨row.getLast hne, ?_, e.symm⟩
    rw [rg_mem]
    unfold topN
    have := foldl_max_ge row.dropLast (-1)
    omega
theorem isG_len {row : List Int} (h : isG row = true) : 1 ≤ row.length ∧ row.length ≤ 7 := by
  unfold isG at h
  rw [Bool.and_eq_true, decide_eq_true_eq] at h
  exact h.1
theorem isG_rgs {row : List Int} (h : isG row = true) : rgsB (-1) row = true := by
  unfold isG at h
  rw [Bool.and_eq_true] at h
  exact h.2
/-- all groupings of at most seven things -/
def allG : List (List Int) := (rg 7).flatMap fun n => rgs (n.toNat + 1)
theorem mem_allG {row : List Int} (h : isG row = true) : row ∈ allG := by
  obtain ⟨h0, h1⟩ := isG_len h
  unfold allG
  rw [List.mem_flatMap]
  refine ⟨(row.length : Int) - 1, rg_mem.mpr (by omega), ?_⟩
  have : ((row.length : Int) - 1).toNat + 1 = row.length := by omega
  rw [this]
  exact mem_rgs _ _ rfl (isG_rgs h)
theorem for_allG {p : List Int → Bool} (h : allG.all p = true) {row : List Int} (g : isG row = true) : p row = true := List.all_eq_true.mp h row (mem_allG g)
/-- each member of a grouping -/
theorem rgsB_mem : ∀ (a : List Int) (m : Int), rgsB m a = true → ∀ x ∈ a, 0 ≤ x ∧ x ≤ m + a.length
  | [], m, _, x, hx => by simp at hx
  | y :: r, m, h, x, hx => by
    unfold rgsB at h
    rw [Bool.and_eq_true, decide_eq_true_eq] at h
    rw [List.length_cons]
    rcases List.mem_cons.mp hx with e | e
    · omega
    · have := rgsB_mem r _ h.2 x e
      omega
theorem fmx_mem : ∀ (a : List Int) (m : Int), a.foldl max m = m ∨ a.foldl max m ∈ a
  | [], m => Or.inl rfl
  | x :: r, m => by
    rw [List.foldl_cons]
    rcases fmx_mem r (max m x) with h | h
    · rw [h]
      by_cases q : m ≤ x
      · right
        have : max m x = x := by omega
        rw [this]
        exact List.mem_cons_self
      · left
        omega
    · exact Or.inr (List.mem_cons_of_mem _ h)
theorem maxI_mem {a : List Int} (h : a ≠ []) : maxI a ∈ a := by
  cases a with
  | nil => exact absurd rfl h
  | cons x r =>
    rw [maxI_cons]
    rcases fmx_mem r x with e | e
    · rw [e]; exact List.mem_cons_self
    · exact List.mem_cons_of_mem _ e
theorem le_foldl_max : ∀ (a : List Int) (m : Int), ∀ x ∈ a, x ≤ a.foldl max m
  | [], m, x, hx => by simp at hx
  | y :: r, m, x, hx => by
    rw [List.foldl_cons]
    rcases List.mem_cons.mp hx with e | e
    · have := foldl_max_ge r (max m y)
      omega
    · exact le_foldl_max r _ x e
theorem le_maxI {a : List Int} {x : Int} (h : x ∈ a) : x ≤ maxI a := by
  cases a with
  | nil => simp at h
  | cons y r =>
    rw [maxI_cons]
    rcases List.mem_cons.mp h with e | e
    · rw [e]; exact foldl_max_ge _ _
    · exact le_foldl_max _ _ _ e
/-- how many groups -/
def nG (row : List Int) : Nat := (maxI row + 1).toNat
theorem isG_max {row : List Int} (h : isG row = true) : 0 ≤ maxI row ∧ maxI row < row.length := by
  have hl := isG_len h
  have hne : row ≠ [] := fun e => by rw [e] at hl; simp at hl
  have := rgsB_mem row _ (isG_rgs h) _ (maxI_mem hne)
  omega
theorem isG_nG {row : List Int} (h : isG row = true) : (nG row : Int) = maxI row + 1 ∧ 1 ≤ nG row ∧ nG row ≤ row.length := by
  have := isG_max h
  unfold nG
  omega
theorem isG_mem {row : List Int} (h : isG row = true) {x : Int} (hx : x ∈ row) : 0 ≤ x ∧ x < nG row := by
  have h1 := rgsB_mem row _ (isG_rgs h) x hx
  have h2 := le_maxI hx
  have h3 := isG_nG h
  omega
theorem at0_mem {xs : List Int} {i : Int} (h0 : 0 ≤ i) (h1 : i < xs.length) : at0 xs i ∈ xs := by
  unfold at0
  rw [List.getD_eq_getElem?_getD, List.getElem?_eq_getElem (by omega : i.toNat < xs.length)]
  exact List.getElem_mem _
/-- the groups -/
def groupsT (row : List Int) : List (List Int) := (rg (nG row)).map fun g => (rg row.length).filter fun k => decide (at0 row k = g)
/-- the group of a thing -/
def withT (row : List Int) (i : Int) : List Int := (rg row.length).filter fun k => decide (at0 row k = at0 row i)
def sizesT (row : List Int) : List Int := (sortI ((groupsT row).map fun g => (g.length : Int))).reverse
def enumT {α : Type} : Nat → List α → List (Int × α)
  | _, [] => []
  | i, x :: r => ((i : Int), x) :: enumT (i + 1) r
/-- the first place of a part with the thing -/
def partsOf (parts : List (List Int)) (i : Int) : List Int := ((enumT 0 parts).filter fun p => decide (i ∈ p.2)).map (·.1)
def partOf (parts : List (List Int)) (i : Int) : Int := at0 (partsOf parts i) 0
def fitParts (parts : List (List Int)) : Bool := parts.all (fun p => decide (p ≠ [])) && decide (1 ≤ parts.flatten.length ∧ parts.flatten.length ≤ 7) && parts.flatten.all (fun i => decide (0 ≤ i ∧ i ≤ 6)) &&
  decide (sortI parts.flatten = rg parts.flatten.length)
def groupingT (parts : List (List Int)) : List Int := number ((rg parts.flatten.length).map (partOf parts))
def mixT (parts : List (List Int)) : List (List Int) := parts.reverse.map List.reverse
theorem mem_insI {x y : Int} : ∀ {xs : List Int}, x ∈ insI y xs ↔ x = y ∨ x ∈ xs
  | [] => by simp [insI]
  | z :: r => by
    unfold insI
    split
    · simp
    · rw [List.mem_cons, mem_insI, List.mem_cons]
      constructor
      · rintro (h | h | h)
        · exact Or.inr (Or.inl h)
        · exact Or.inl h
        · exact Or.inr (Or.inr h)
      · rintro (h | h | h)
        · exact Or.inr (Or.inl h)
        · exact Or.inl h
        · exact Or.inr (Or.inr h)
theorem mem_sortI {x : Int} : ∀ {xs : List Int}, x ∈ sortI xs ↔ x ∈ xs
  | [] => by simp [sortI]
  | z :: r => by
    unfold sortI
    rw [mem_insI, mem_sortI, List.mem_cons]
theorem enumT_mem {α : Type} {x : α} : ∀ {xs : List α} {n : Nat}, x ∈ xs → ∃ i : Nat, ((i : Int), x) ∈ enumT n xs
  | [], _, h => by simp at h
  | y :: r, n, h => by
    unfold enumT
    rcases List.mem_cons.mp h with e | e
    · exact ⟨n, by rw [e]; exact List.mem_cons_self⟩
    · obtain ⟨i, h⟩ := enumT_mem (n := n + 1) e
      exact ⟨i, List.mem_cons_of_mem _ h⟩
theorem fitParts_of {parts : List (List Int)} (h : fitParts parts = true) : (∀ p ∈ parts, p ≠ []) ∧ 1 ≤ parts.flatten.length ∧ parts.flatten.length ≤ 7 ∧ (∀ i ∈ parts.flatten, 0 ≤ i ∧ i ≤ 6) ∧ sortI parts.flatten = rg parts.flatten.length := by
  unfold fitParts at h
  simp only [Bool.and_eq_true, List.all_eq_true, decide_eq_true_eq] at h
  exact ⟨h.1.1.1, h.1.1.2.1, h.1.1.2.2, h.1.2, h.2⟩
theorem partsOf_ne {parts : List (List Int)} (h : fitParts parts = true) {i : Int} (hi : i ∈ rg parts.flatten.length) : 0 < (partsOf parts i).length := by
  obtain ⟨_, _, _, _, hs⟩ := fitParts_of h
  rw [← hs, mem_sortI, List.mem_flatten] at hi
  obtain ⟨p, hp, hip⟩ := hi
  obtain ⟨k, hk⟩ := enumT_mem (n := 0) hp
  unfold partsOf
  rw [List.length_map]
  exact List.length_pos_of_mem (List.mem_filter.mpr ⟨hk, decide_eq_true hip⟩)
end DL

/-! All groupings, counted. -/
namespace DL
theorem rgs_mem : ∀ (n : Nat) (row : List Int), row ∈ rgs n → row.length = n ∧ rgsB (-1) row = true
  | 0, row, h => by
    unfold rgs at h
    rw [List.mem_singleton] at h
    rw [h]
    exact ⟨rfl, rfl⟩
  | n + 1, row, h => by
    unfold rgs at h
    rw [List.mem_flatMap] at h
    obtain ⟨a, ha, h⟩ := h
    rw [List.mem_map] at h
    obtain ⟨g, hg, rfl⟩ := h
    obtain ⟨h1, h2⟩ := rgs_mem n a ha
    rw [rg_mem] at hg
    refine ⟨by rw [List.length_append, h1]; rfl, ?_⟩
    rw [rgsB_snoc, h2, Bool.true_and, decide_eq_true_eq]
    unfold topN at hg
    have := foldl_max_ge a (-1)
    omega
theorem rgs_isG {n : Nat} (h0 : 1 ≤ n) (h1 : n ≤ 7) {row : List Int} (h : row ∈ rgs n) : isG row = true ∧ row.length = n := by
  obtain ⟨a, b⟩ := rgs_mem n row h
  refine ⟨?_, a⟩
  unfold isG
  rw [b, Bool.and_true]
  exact decide_eq_true (by omega)
theorem isG_rgs_mem {row : List Int} (h : isG row = true) : row ∈ rgs row.length := mem_rgs _ _ rfl (isG_rgs h)
theorem rgs_len7 : ∀ n, 1 ≤ n → n ≤ 7 → 1 ≤ (rgs n).length ∧ (rgs n).length ≤ 877 := by
  have : ∀ n ∈ List.range 8, 1 ≤ (rgs n).length ∧ (rgs n).length ≤ 877 := by decide +kernel
  intro n _ h
  exact this n (List.mem_range.mpr (by omega))
/-- how many groupings of one thing more, by groups -/
def nextW (t : Nat) (ways : List Int) : List Int := 0 :: (List.range' 1 t).map fun (k : Nat) => at0 ways ((k : Int) - 1) + if k < t then (k : Int) * at0 ways k else 0
def waysT : Nat → List Int
  | 0 => [1]
  | t + 1 => nextW (t + 1) (waysT t)
theorem waysT_len : ∀ t, (waysT t).length = t + 1
  | 0 => rfl
  | t + 1 => by
    unfold waysT nextW
    rw [List.length_cons, List.length_map, List.length_range']
/-- so many groupings with so many groups -/
def cwg (size many : Int) : Int := if many ≤ size then at0 (waysT size.toNat) many else 0
def callT (size : Int) : Int := ((List.range' 1 size.toNat).map fun (k : Nat) => cwg size k).sum
end DL

/-! Pairs of things. -/
namespace DL
/-- all pairs of things, in order -/
def pairsT (n : Nat) : List (Int × Int) := (List.range n).flatMap fun (k : Nat) => (List.range' (k + 1) (n - (k + 1))).map fun (j : Nat) => ((k : Int), (j : Int))
theorem pairsT_mem {n : Nat} {p : Int × Int} : p ∈ pairsT n ↔ 0 ≤ p.1 ∧ p.1 < p.2 ∧ p.2 < n := by
  unfold pairsT
  rw [List.mem_flatMap]
  constructor
  · rintro ⟨k, hk, h⟩
    rw [List.mem_map] at h
    obtain ⟨j, hj, rfl⟩ := h
    rw [List.mem_range] at hk
    rw [List.mem_range'_1] at hj
    dsimp only
    omega
  · rintro ⟨h0, h1, h2⟩
    obtain ⟨a, b⟩ := p
    dsimp only at h0 h1 h2
    refine ⟨a.toNat, List.mem_range.mpr (by omega), ?_⟩
    rw [List.mem_map]
    refine ⟨b.toNat, ?_, ?_⟩
    · rw [List.mem_range'_1]
      omega
    · rw [Int.toNat_of_nonneg h0, Int.toNat_of_nonneg (by omega)]
/-- the two things of a pair stand together -/
def sm (a : List Int) (p : Int × Int) : Bool := decide (at0 a p.1 = at0 a p.2)
/-- unlike pairs -/
def apartT (a b : List Int) : List (Int × Int) := (pairsT a.length).filter fun p => !decide (sm a p = sm b p)
/-- D -/
def dT (a b : List Int) : Nat := (apartT a b).length
def cT (p : Int × Int → Bool) (n : Nat) : Int := ((pairsT n).filter p).length
/-- the four counts of pairs -/
def outT (a b : List Int) : List Int := [cT (fun p => sm a p && sm b p) a.length, cT (fun p => sm a p && !sm b p) a.length, cT (fun p => !sm a p && sm b p) a.length, cT (fun p => !sm a p && !sm b p) a.length]
def stepO (a b : List Int) (s : Int × Int × Int × Int) (p : Int × Int) : Int × Int × Int × Int :=
  if sm a p then (if sm b p then (s.1 + 1, s.2.1, s.2.2.1, s.2.2.2) else (s.1, s.2.1 + 1, s.2.2.1, s.2.2.2)) else (if sm b p then (s.1, s.2.1, s.2.2.1 + 1, s.2.2.2) else (s.1, s.2.1, s.2.2.1, s.2.2.2 + 1))
theorem foldO (a b : List Int) : ∀ (ps : List (Int × Int)) (s : Int × Int × Int × Int), ps.foldl (stepO a b) s =
    (s.1 + ((ps.filter fun p => sm a p && sm b p).length : Int), s.2.1 + ((ps.filter fun p => sm a p && !sm b p).length : Int), s.2.2.1 + ((ps.filter fun p => !sm a p && sm b p).length : Int), s.2.2.2 + ((ps.filter fun p => !sm a p && !sm b p).length : Int))
  | [], s => by simp
  | p :: ps, s => by
    rw [List.foldl_cons, foldO a b ps]
    unfold stepO
    cases h1 : sm a p <;> cases h2 : sm b p <;> simp [List.filter_cons, h1, h2] <;> omega
theorem dT_eq (a b : List Int) : (dT a b : Int) = cT (fun p => sm a p && !sm b p) a.length + cT (fun p => !sm a p && sm b p) a.length := by
  unfold dT apartT cT
  generalize pairsT a.length = ps
  induction ps with
  | nil => rfl
  | cons p ps ih =>
    cases h1 : sm a p <;> cases h2 : sm b p <;> simp [List.filter_cons, h1, h2] <;> omega
end DL

/-! Unlike pairs: sums, and what lies between. -/
namespace DL
def betT (a m b : List Int) : Bool := (pairsT a.length).all fun p => !(decide (sm a p = sm b p) && !decide (sm m p = sm a p))
theorem dT_symm {a b : List Int} (h : b.length = a.length) : dT a b = dT b a := by
  unfold dT apartT
  rw [h]
  congr 1
  refine List.filter_congr fun p _ => ?_
  cases sm a p <;> cases sm b p <;> rfl
theorem dT_self (a : List Int) : dT a a = 0 := by
  unfold dT apartT
  rw [List.length_eq_zero_iff, List.filter_eq_nil_iff]
  intro p _
  simp
theorem count3 (f g h : Int × Int → Bool) : ∀ ps : List (Int × Int), (ps.filter fun p => !decide (f p = h p)).length ≤ (ps.filter fun p => !decide (f p = g p)).length + (ps.filter fun p => !decide (g p = h p)).length ∧
    ((ps.filter fun p => !decide (f p = g p)).length + (ps.filter fun p => !decide (g p = h p)).length = (ps.filter fun p => !decide (f p = h p)).length ↔ (ps.all fun p => !(decide (f p = h p) && !decide (g p = f p))) = true)
  | [] => by simp
  | p :: ps => by
    obtain ⟨h1, h2⟩ := count3 f g h ps
    cases q1 : f p <;> cases q2 : g p <;> cases q3 : h p <;> simp [List.filter_cons, q1, q2, q3] at h2 ⊢ <;> first | (constructor <;> first | omega | (rw [← h2]; omega)) | omega
theorem dT_tri {a m b : List Int} (hm : m.length = a.length) : dT a b ≤ dT a m + dT m b := by
  unfold dT apartT
  rw [hm]
  exact (count3 (sm a) (sm m) (sm b) _).1
theorem dT_bet {a m b : List Int} (hm : m.length = a.length) : dT a m + dT m b = dT a b ↔ betT a m b = true := by
  unfold dT apartT betT
  rw [hm]
  exact (count3 (sm a) (sm m) (sm b) _).2
/-- sum of unlike pairs to several -/
def sumD (R : List (List Int)) (row : List Int) : Int := (R.map fun one => (dT row one : Int)).sum
theorem minI_le {xs : List Int} {x : Int} (h : x ∈ xs) : minI xs ≤ x := (minI_of (List.length_pos_of_mem h)).2 x h
theorem minI_eq {xs : List Int} {m : Int} (h : m ∈ xs) (k : ∀ x ∈ xs, m ≤ x) : minI xs = m := by
  have h1 := minI_of (List.length_pos_of_mem h)
  have := h1.2 m h
  have := k _ h1.1
  omega
/-- rows are alike exactly if no pair is unlike -/
theorem dT_zero {a b : List Int} (ha : isG a = true) (hb : isG b = true) (h : b.length = a.length) : dT a b = 0 ↔ a = b := by
  constructor
  · intro e
    unfold dT apartT at e
    rw [List.length_eq_zero_iff, List.filter_eq_nil_iff] at e
    refine rgs_eq (isG_rgs ha) (isG_rgs hb) ⟨h.symm, fun i j hi hj => ?_⟩
    have key : ∀ i j : Nat, i < j → j < a.length → (a[i]? = a[j]? ↔ b[i]? = b[j]?) := by
      intro i j hij hj
      have := e ((i : Int), (j : Int)) (pairsT_mem.mpr (by dsimp only; omega))
      simp only [Bool.not_eq_true', decide_eq_false_iff_not, Classical.not_not] at this
      unfold sm at this
      rw [decide_eq_decide] at this
      unfold at0 at this
      simp only [List.getD_eq_getElem?_getD, Int.toNat_natCast] at this
      rw [List.getElem?_eq_getElem (show i < a.length by omega), List.getElem?_eq_getElem hj, List.getElem?_eq_getElem (show i < b.length by omega), List.getElem?_eq_getElem (show j < b.length by omega)] at this ⊢
      simpa using this
    rcases Nat.lt_trichotomy i j with q | q | q
    · exact key i j q hj
    · rw [q]
      exact ⟨fun _ => rfl, fun _ => rfl⟩
    · have := key j i q hi
      exact ⟨fun z => (this.mp z.symm).symm, fun z => (this.mpr z.symm).symm⟩
  · rintro rfl
    exact dT_self a
end DL

/-! Things linked by pairs: rounds of least labels. -/
namespace DL
def stepC (fd : List Int) (p : Int × Int) : List Int := (fd.set p.1.toNat (min (at0 fd p.1) (at0 fd p.2))).set p.2.toNat (min (at0 fd p.1) (at0 fd p.2))
def sweepC (L : List (Int × Int)) (fd : List Int) : List Int := L.foldl stepC fd
def roundsC (L : List (Int × Int)) : Nat → List Int → List Int
  | 0, fd => fd
  | t + 1, fd => roundsC L t (sweepC L fd)
/-- the finest grouping with these pairs together -/
def linkT (n : Nat) (L : List (Int × Int)) : List Int := number (roundsC L n (rg n))
@[simp] theorem stepC_len (fd : List Int) (p : Int × Int) : (stepC fd p).length = fd.length := by unfold stepC; rw [List.length_set, List.length_set]
@[simp] theorem sweepC_len : ∀ (L : List (Int × Int)) (fd : List Int), (sweepC L fd).length = fd.length
  | [], fd => rfl
  | p :: L, fd => by
    show (sweepC L (stepC fd p)).length = _
    rw [sweepC_len L, stepC_len]
@[simp] theorem roundsC_len (L : List (Int × Int)) : ∀ (t : Nat) (fd : List Int), (roundsC L t fd).length = fd.length
  | 0, fd => rfl
  | t + 1, fd => by
    show (roundsC L t (sweepC L fd)).length = _
    rw [roundsC_len L t, sweepC_len]
@[simp] theorem linkT_len (n : Nat) (L : List (Int × Int)) : (linkT n L).length = n := by unfold linkT; rw [number_len, roundsC_len, rg_len]
theorem linkT_isG {n : Nat} (h0 : 1 ≤ n) (h1 : n ≤ 7) (L : List (Int × Int)) : isG (linkT n L) = true := by
  unfold linkT
  exact number_isG (by rw [roundsC_len, rg_len]; exact h0) (by rw [roundsC_len, rg_len]; exact h1)
/-- all pairs of places, each way round and each with itself -/
def allP (n : Nat) : List (Int × Int) := (rg n).flatMap fun k => (rg n).map fun j => (k, j)
def adjP (a b : List Int) : List (Int × Int) := (allP a.length).filter fun p => sm a p || sm b p
def joinT (a b : List Int) : List Int := linkT a.length (adjP a b)
def meetT (a b : List Int) : List Int := number (a.zip b)
@[simp] theorem joinT_len (a b : List Int) : (joinT a b).length = a.length := linkT_len _ _
theorem joinT_isG {a b : List Int} (ha : isG a = true) : isG (joinT a b) = true := linkT_isG (isG_len ha).1 (isG_len ha).2 _
theorem meetT_len {a b : List Int} (h : b.length = a.length) : (meetT a b).length = a.length := by unfold meetT; rw [number_len, List.length_zip, h, Nat.min_self]
theorem meetT_isG {a b : List Int} (ha : isG a = true) (h : b.length = a.length) : isG (meetT a b) = true := by
  unfold meetT
  have := isG_len ha
  exact number_isG (by rw [List.length_zip, h, Nat.min_self]; exact this.1) (by rw [List.length_zip, h, Nat.min_self]; exact this.2)
theorem allP_mem {n : Nat} {p : Int × Int} : p ∈ allP n ↔ 0 ≤ p.1 ∧ p.1 < n ∧ 0 ≤ p.2 ∧ p.2 < n := by
  unfold allP
  rw [List.mem_flatMap]
  constructor
  · rintro ⟨k, hk, hp⟩
    rw [List.mem_map] at hp
    obtain ⟨j, hj, rfl⟩ := hp
    have := rg_mem.mp hk
    have := rg_mem.mp hj
    exact ⟨by omega, by omega, by omega, by omega⟩
  · rintro ⟨h1, h2, h3, h4⟩
    exact ⟨p.1, rg_mem.mpr ⟨h1, h2⟩, List.mem_map.mpr ⟨p.2, rg_mem.mpr ⟨h3, h4⟩, rfl⟩⟩
theorem at0_get {xs : List Int} {i : Nat} (h : i < xs.length) : at0 xs (i : Int) = xs[i] := by
  unfold at0
  rw [Int.toNat_natCast, List.getD_eq_getElem?_getD, List.getElem?_eq_getElem h]
  rfl
theorem sm_zip {a b : List Int} (h : b.length = a.length) {i j : Nat} (hi : i < a.length) (hj : j < a.length) : ((a.zip b)[i]? = (a.zip b)[j]?) ↔ (a[i]? = a[j]? ∧ b[i]? = b[j]?) := by
  have h1 : i < (a.zip b).length := by rw [List.length_zip]; omega
  have h2 : j < (a.zip b).length := by rw [List.length_zip]; omega
  rw [List.getElem?_eq_getElem h1, List.getElem?_eq_getElem h2, List.getElem?_eq_getElem hi, List.getElem?_eq_getElem hj, List.getElem?_eq_getElem (show i < b.length by omega), List.getElem?_eq_getElem (show j < b.length by omega), List.getElem_zip, List.getElem_zip]
  simp
theorem sm_get {a : List Int} {p : Int × Int} (h : p ∈ pairsT a.length) : sm a p = decide (a[p.1.toNat]? = a[p.2.toNat]?) := by
  have := pairsT_mem.mp h
  unfold sm
  have e1 : at0 a p.1 = a[p.1.toNat] := by
    have := at0_get (xs := a) (i := p.1.toNat) (by omega)
    rwa [Int.toNat_of_nonneg (by omega)] at this
  have e2 : at0 a p.2 = a[p.2.toNat] := by
    have := at0_get (xs := a) (i := p.2.toNat) (by omega)
    rwa [Int.toNat_of_nonneg (by omega)] at this
  rw [e1, e2, List.getElem?_eq_getElem (by omega), List.getElem?_eq_getElem (by omega)]
  simp
theorem sm_meet {a b : List Int} (h : b.length = a.length) {p : Int × Int} (hp : p ∈ pairsT a.length) : sm (meetT a b) p = (sm a p && sm b p) := by
  have hm := meetT_len h
  have hl : (a.zip b).length = a.length := by rw [List.length_zip]; omega
  have := pairsT_mem.mp hp
  rw [sm_get (a := meetT a b) (by rw [hm]; exact hp), sm_get hp, sm_get (a := b) (by rw [h]; exact hp), ← Bool.decide_and]
  have s := (number_same (a.zip b)).2 p.1.toNat p.2.toNat (by omega) (by omega)
  exact decide_eq_decide.mpr (s.symm.trans (sm_zip h (by omega) (by omega)))
end DL

/-! Linked by pairs: what the rounds find. -/
namespace DL
inductive Cn (E : Int → Int → Prop) : Int → Int → Prop
  | refl (i : Int) : Cn E i i
  | snoc {i j k : Int} : Cn E i j → (E j k ∨ E k j) → Cn E i k
namespace Cn
variable {E E' : Int → Int → Prop}
theorem trans {i j k : Int} (h : Cn E i j) (h2 : Cn E j k) : Cn E i k := by
  induction h2 with
  | refl => exact h
  | snoc _ e ih => exact .snoc ih e
theorem one {i j : Int} (h : E i j ∨ E j i) : Cn E i j := .snoc (.refl i) h
theorem symm {i j : Int} (h : Cn E i j) : Cn E j i := by
  induction h with
  | refl => exact .refl _
  | snoc _ e ih => exact (one e.symm).trans ih
theorem mono (m : ∀ i j, E i j → E' i j) {i j : Int} (h : Cn E i j) : Cn E' i j := by
  induction h with
  | refl => exact .refl _
  | snoc _ e ih => exact .snoc ih (e.imp (m _ _) (m _ _))
/-- a relation that holds at each step, holds -/
theorem lift {R : Int → Int → Prop} (r : ∀ i, R i i) (s : ∀ i j, R i j → R j i) (t : ∀ i j k, R i j → R j k → R i k) (m : ∀ i j, E i j → R i j) {i j : Int} (h : Cn E i j) : R i j := by
  induction h with
  | refl => exact r _
  | snoc _ e ih => exact t _ _ _ ih (e.elim (m _ _) fun z => s _ _ (m _ _ z))
theorem range {n : Int} (m : ∀ i j, E i j → (0 ≤ i ∧ i < n) ∧ 0 ≤ j ∧ j < n) {i j : Int} (h : Cn E i j) (hi : 0 ≤ i ∧ i < n) : 0 ≤ j ∧ j < n := by
  cases h with
  | refl => exact hi
  | snoc _ e => rcases e with e | e
                · exact (m _ _ e).2
                · exact (m _ _ e).1
end Cn
theorem nodup_sub_len {α : Type} [DecidableEq α] : ∀ (S T : List α), S.Nodup → (∀ x ∈ S, x ∈ T) → S.length ≤ T.length
  | [], _, _, _ => Nat.zero_le _
  | x :: S, T, h, k => by
    have h' := List.nodup_cons.mp h
    have hx := k x List.mem_cons_self
    have := nodup_sub_len S (T.erase x) h'.2 fun y hy => by
      have hne : y ≠ x := fun z => h'.1 (z ▸ hy)
      exact (List.mem_erase_of_ne hne).mpr (k y (List.mem_cons_of_mem _ hy))
    rw [List.length_erase_of_mem hx] at this
    have := List.length_pos_of_mem hx
    rw [List.length_cons]
    omega
theorem at0_set {xs : List Int} {j : Nat} {v : Int} {i : Int} (h0 : 0 ≤ i) (hj : j < xs.length) : at0 (xs.set j v) i = if i = j then v else at0 xs i := by
  unfold at0
  rw [List.getD_eq_getElem?_getD, List.getD_eq_getElem?_getD, List.getElem?_set]
  by_cases e : i = j
  · subst e
    rw [if_pos (by simp), if_pos (by simpa using hj), if_pos rfl]
    rfl
  · rw [if_neg (by omega), if_neg e]
def lE (L : List (Int × Int)) : Int → Int → Prop := fun a b => (a, b) ∈ L
def okL (n : Nat) (L : List (Int × Int)) : Prop := ∀ p ∈ L, (0 ≤ p.1 ∧ p.1 < n) ∧ 0 ≤ p.2 ∧ p.2 < n
theorem okL_cn {n : Nat} {L : List (Int × Int)} (h : okL n L) {i j : Int} (c : Cn (lE L) i j) (hi : 0 ≤ i ∧ i < n) : 0 ≤ j ∧ j < n := c.range (fun a b e => h (a, b) e) hi
theorem at0_rg {n : Nat} {i : Int} (h : 0 ≤ i ∧ i < n) : at0 (rg n) i = i := by
  have := at0_get (xs := rg n) (i := i.toNat) (by rw [rg_len]; omega)
  rw [Int.toNat_of_nonneg h.1] at this
  rw [this]
  have e := rg_get (n := n) (i := i.toNat) (by omega)
  rw [List.getElem?_eq_getElem (by rw [rg_len]; omega)] at e
  have := Option.some.inj e
  rw [this]
  omega
section
variable {n : Nat} {L : List (Int × Int)}
theorem step_at {fd : List Int} (hl : fd.length = n) {p : Int × Int} (hp : (0 ≤ p.1 ∧ p.1 < n) ∧ 0 ≤ p.2 ∧ p.2 < n) {i : Int} (h0 : 0 ≤ i) :
    at0 (stepC fd p) i = if i = p.2 then min (at0 fd p.1) (at0 fd p.2) else if i = p.1 then min (at0 fd p.1) (at0 fd p.2) else at0 fd i := by
  unfold stepC
  rw [at0_set h0 (by rw [List.length_set]; omega), at0_set h0 (by omega), Int.toNat_of_nonneg hp.2.1, Int.toNat_of_nonneg hp.1.1]
structure OkF (n : Nat) (L : List (Int × Int)) (fd : List Int) : Prop where
  len : fd.length = n
  lo : ∀ i : Int, 0 ≤ i → i < n → 0 ≤ at0 fd i ∧ at0 fd i ≤ i
  cn : ∀ i : Int, 0 ≤ i → i < n → Cn (lE L) i (at0 fd i)
theorem okF_start : OkF n L (rg n) := ⟨rg_len n, fun i h0 h1 => by rw [at0_rg ⟨h0, h1⟩]; omega, fun i h0 h1 => by rw [at0_rg ⟨h0, h1⟩]; exact .refl i⟩
theorem step_le {fd : List Int} (hl : fd.length = n) {p : Int × Int} (hp : (0 ≤ p.1 ∧ p.1 < n) ∧ 0 ≤ p.2 ∧ p.2 < n) {i : Int} (h0 : 0 ≤ i) : at0 (stepC fd p) i ≤ at0 fd i := by
  rw [step_at hl hp h0]
  split
  · rename_i e; rw [e]; omega
  · split
    · rename_i e; rw [e]; omega
    · omega
theorem okF_step {fd : List Int} (ok : OkF n L fd) {p : Int × Int} (hm : p ∈ L) (hp : (0 ≤ p.1 ∧ p.1 < n) ∧ 0 ≤ p.2 ∧ p.2 < n) : OkF n L (stepC fd p) := by
  have l1 := ok.lo p.1 hp.1.1 hp.1.2
  have l2 := ok.lo p.2 hp.2.1 hp.2.2
  have c1 := ok.cn p.1 hp.1.1 hp.1.2
  have c2 := ok.cn p.2 hp.2.1 hp.2.2
  have c12 : Cn (lE L) p.1 p.2 := .one (.inl hm)
  have cm : ∀ i, Cn (lE L) i p.1 → Cn (lE L) i (min (at0 fd p.1) (at0 fd p.2)) := fun i h => by
    by_cases q : at0 fd p.1 ≤ at0 fd p.2
    · rw [show min (at0 fd p.1) (at0 fd p.2) = at0 fd p.1 by omega]; exact h.trans c1
    · rw [show min (at0 fd p.1) (at0 fd p.2) = at0 fd p.2 by omega]; exact (h.trans c12).trans c2
  refine ⟨by rw [stepC_len]; exact ok.len, fun i h0 h1 => ?_, fun i h0 h1 => ?_⟩
  · have h := ok.lo i h0 h1
    have hle := step_le ok.len hp h0
    refine ⟨?_, by omega⟩
    rw [step_at ok.len hp h0]
    split
    · omega
    · split <;> omega
  · rw [step_at ok.len hp h0]
    split
    · rename_i e; rw [e]; exact cm p.2 c12.symm
    · split
      · rename_i e; rw [e]; exact cm p.1 (.refl _)
      · exact ok.cn i h0 h1
/-- i has the least label of its kind -/
def FinF (n : Nat) (L : List (Int × Int)) (fd : List Int) (i : Int) : Prop := (0 ≤ i ∧ i < n) ∧ ∀ j, Cn (lE L) i j → at0 fd i ≤ j
theorem sweep_le (hL : okL n L) : ∀ (L' : List (Int × Int)) (fd : List Int), (∀ p ∈ L', p ∈ L) → OkF n L fd → OkF n L (sweepC L' fd) ∧ ∀ i : Int, 0 ≤ i → at0 (sweepC L' fd) i ≤ at0 fd i
  | [], fd, _, ok => ⟨ok, fun _ _ => Int.le_refl _⟩
  | p :: L', fd, hs, ok => by
    have hp := hL p (hs p List.mem_cons_self)
    have ok2 := okF_step ok (hs p List.mem_cons_self) hp
    obtain ⟨a, b⟩ := sweep_le hL L' (stepC fd p) (fun q hq => hs q (List.mem_cons_of_mem _ hq)) ok2
    exact ⟨a, fun i h0 => Int.le_trans (b i h0) (step_le ok.len hp h0)⟩
theorem fin_mono {fd fd' : List Int} {i : Int} (h : FinF n L fd i) (le : at0 fd' i ≤ at0 fd i) : FinF n L fd' i := ⟨h.1, fun j c => Int.le_trans le (h.2 j c)⟩
theorem fin_pass (hL : okL n L) : ∀ (L' : List (Int × Int)) (fd : List Int), (∀ p ∈ L', p ∈ L) → OkF n L fd → ∀ i j, ((i, j) ∈ L' ∨ (j, i) ∈ L') → FinF n L fd i → FinF n L (sweepC L' fd) j
  | [], _, _, _, i, j, h, _ => by rcases h with h | h <;> cases h
  | p :: L', fd, hs, ok, i, j, h, f => by
    have hp := hL p (hs p List.mem_cons_self)
    have ok2 := okF_step ok (hs p List.mem_cons_self) hp
    have hs' : ∀ q ∈ L', q ∈ L := fun q hq => hs q (List.mem_cons_of_mem _ hq)
    have sl := sweep_le hL L' (stepC fd p) hs' ok2
    have here : (p = (i, j) ∨ p = (j, i)) → FinF n L (sweepC (p :: L') fd) j := fun e => by
      have hj : 0 ≤ j ∧ j < n := by rcases e with e | e <;> (rw [e] at hp; first | exact hp.2 | exact hp.1)
      have cij : Cn (lE L) i j := by
        rcases e with e | e
        · exact .one (.inl (show (i, j) ∈ L by rw [← e]; exact hs p List.mem_cons_self))
        · exact .one (.inr (show (j, i) ∈ L by rw [← e]; exact hs p List.mem_cons_self))
      have hle : at0 (stepC fd p) j ≤ at0 fd i := by
        rw [step_at ok.len hp hj.1]
        rcases e with e | e
        · rw [e, if_pos rfl]; show min (at0 fd i) (at0 fd j) ≤ _; omega
        · rw [e]
          split
          · show min (at0 fd j) (at0 fd i) ≤ _; omega
          · rw [if_pos rfl]; show min (at0 fd j) (at0 fd i) ≤ _; omega
      refine ⟨hj, fun k c => ?_⟩
      have := f.2 k (cij.trans c)
      have := sl.2 j hj.1
      show at0 (sweepC L' (stepC fd p)) j ≤ k
      omega
    by_cases e : p = (i, j) ∨ p = (j, i)
    · exact here e
    · have h' : (i, j) ∈ L' ∨ (j, i) ∈ L' := by
        rcases h with h | h
        · rcases List.mem_cons.mp h with z | z
          · exact absurd (.inl z.symm) e
          · exact .inl z
        · rcases List.mem_cons.mp h with z | z
          · exact absurd (.inr z.symm) e
          · exact .inr z
      exact fin_pass hL L' (stepC fd p) hs' ok2 i j h' (fin_mono f (step_le ok.len hp f.1.1))
theorem least_of {P : Int → Prop} : ∀ (m : Nat) (i : Int), 0 ≤ i → i ≤ m → P i → (∀ j, P j → 0 ≤ j) → ∃ j, P j ∧ ∀ k, P k → j ≤ k
  | 0, i, h0, h1, hp, hn => ⟨i, hp, fun k hk => by have := hn k hk; omega⟩
  | m + 1, i, h0, h1, hp, hn => by
    by_cases h : ∃ k, P k ∧ k < i
    · obtain ⟨k, hk, lt⟩ := h
      exact least_of m k (hn k hk) (by omega) hk hn
    · exact ⟨i, hp, fun k hk => by
        by_cases q : k < i
        · exact absurd ⟨k, hk, q⟩ h
        · omega⟩
theorem grows (hL : okL n L) {fd : List Int} (ok : OkF n L fd) {i0 : Int} (h0 : 0 ≤ i0 ∧ i0 < n) (nf : ¬FinF n L fd i0) : ∃ y : Int, (0 ≤ y ∧ y < n) ∧ ¬FinF n L fd y ∧ FinF n L (sweepC L fd) y := by
  obtain ⟨m, hm, least⟩ := least_of (P := fun j => Cn (lE L) i0 j) i0.toNat i0 h0.1 (by omega) (.refl i0) fun j c => (okL_cn hL c h0).1
  have hmr := okL_cn hL hm h0
  have fm : FinF n L fd m := ⟨hmr, fun j c => Int.le_trans (ok.lo m hmr.1 hmr.2).2 (least j (hm.trans c))⟩
  -- the first step out
  have key : ∀ x y, Cn (lE L) x y → FinF n L fd x → ¬FinF n L fd y → ∃ a b, ((a, b) ∈ L ∨ (b, a) ∈ L) ∧ FinF n L fd a ∧ ¬FinF n L fd b := by
    intro x y c
    induction c with
    | refl => intro a b; exact absurd a b
    | @snoc j k c e ih =>
      intro fx ny
      by_cases fj : FinF n L fd j
      · exact ⟨j, k, e, fj, ny⟩
      · exact ih fx fj
  obtain ⟨a, b, e, fa, nb⟩ := key m i0 hm.symm fm nf
  have hb : 0 ≤ b ∧ b < n := by
    rcases e with e | e
    · exact (hL _ e).2
    · exact (hL _ e).1
  exact ⟨b, hb, nb, fin_pass hL L fd (fun _ h => h) ok a b e fa⟩
theorem rounds_ok (hL : okL n L) : ∀ (t : Nat) (fd : List Int), OkF n L fd → OkF n L (roundsC L t fd) ∧ ∀ i : Int, 0 ≤ i → at0 (roundsC L t fd) i ≤ at0 fd i
  | 0, fd, ok => ⟨ok, fun _ _ => Int.le_refl _⟩
  | t + 1, fd, ok => by
    obtain ⟨a, b⟩ := sweep_le hL L fd (fun _ h => h) ok
    obtain ⟨c, d⟩ := rounds_ok hL t (sweepC L fd) a
    exact ⟨c, fun i h => Int.le_trans (d i h) (b i h)⟩
theorem rounds_fin (hL : okL n L) : ∀ (t : Nat) (fd : List Int) (S : List Int), OkF n L fd → S.Nodup → (∀ x ∈ S, FinF n L fd x) → (∀ i : Int, 0 ≤ i → i < n → FinF n L (roundsC L t fd) i) ∨ ∃ S' : List Int, S'.Nodup ∧ S'.length = S.length + t ∧ ∀ x ∈ S', FinF n L (roundsC L t fd) x
  | 0, fd, S, ok, hS, hF => .inr ⟨S, hS, rfl, hF⟩
  | t + 1, fd, S, ok, hS, hF => by
    obtain ⟨ok2, le⟩ := sweep_le hL L fd (fun _ h => h) ok
    by_cases all : ∀ i : Int, 0 ≤ i → i < n → FinF n L fd i
    · obtain ⟨_, le2⟩ := rounds_ok hL (t + 1) fd ok
      exact .inl fun i h0 h1 => fin_mono (all i h0 h1) (le2 i h0)
    · have : ∃ i : Int, (0 ≤ i ∧ i < n) ∧ ¬FinF n L fd i := Classical.byContradiction fun h => all fun i h0 h1 => Classical.byContradiction fun z => h ⟨i, ⟨h0, h1⟩, z⟩
      obtain ⟨i, hi, ni⟩ := this
      obtain ⟨y, hy, ny, fy⟩ := grows hL ok hi ni
      rcases rounds_fin hL t (sweepC L fd) (y :: S) ok2 (List.nodup_cons.mpr ⟨fun z => ny (hF y z), hS⟩) (fun x hx => by
        rcases List.mem_cons.mp hx with e | e
        · rw [e]; exact fy
        · exact fin_mono (hF x e) (le x (hF x e).1.1)) with h | ⟨S', a, b, c⟩
      · exact .inl h
      · exact .inr ⟨S', a, by rw [b, List.length_cons]; omega, c⟩
theorem rounds_cn (hL : okL n L) {i j : Int} (hi : 0 ≤ i ∧ i < n) (hj : 0 ≤ j ∧ j < n) : at0 (roundsC L n (rg n)) i = at0 (roundsC L n (rg n)) j ↔ Cn (lE L) i j := by
  obtain ⟨ok, _⟩ := rounds_ok hL n (rg n) okF_start
  have fin : ∀ i : Int, 0 ≤ i → i < n → FinF n L (roundsC L n (rg n)) i := by
    rcases rounds_fin hL n (rg n) [] okF_start List.nodup_nil (fun _ h => by cases h) with h | ⟨S, a, b, c⟩
    · exact h
    · intro i h0 h1
      by_cases hiS : i ∈ S
      · exact c i hiS
      · have := nodup_sub_len (i :: S) (rg n) (List.nodup_cons.mpr ⟨hiS, a⟩) fun x hx => by
          rcases List.mem_cons.mp hx with e | e
          · rw [e]; exact rg_mem.mpr ⟨h0, h1⟩
          · exact rg_mem.mpr (c x e).1
        rw [List.length_cons, b, rg_len, List.length_nil] at this
        omega
  constructor
  · intro e
    have c1 := ok.cn i hi.1 hi.2
    have c2 := ok.cn j hj.1 hj.2
    rw [← e] at c2
    exact c1.trans c2.symm
  · intro c
    have c1 := ok.cn i hi.1 hi.2
    have c2 := ok.cn j hj.1 hj.2
    have h1 := (fin i hi.1 hi.2).2 _ (c.trans c2)
    have h2 := (fin j hj.1 hj.2).2 _ (c.symm.trans c1)
    omega
end
/-- Same, by places that are whole numbers -/
theorem same_at0 {a b : List Int} (hl : a.length = b.length) : Same a b ↔ ∀ i j : Int, (0 ≤ i ∧ i < a.length) → (0 ≤ j ∧ j < a.length) → (at0 a i = at0 a j ↔ at0 b i = at0 b j) := by
  have e : ∀ (x : List Int) (i : Nat), i < x.length → x[i]? = some (at0 x i) := fun x i h => by rw [List.getElem?_eq_getElem h, at0_get h]
  constructor
  · intro s i j hi hj
    have := s.2 i.toNat j.toNat (by omega) (by omega)
    rw [e a _ (by omega), e a _ (by omega), e b _ (by omega), e b _ (by omega), Int.toNat_of_nonneg hi.1, Int.toNat_of_nonneg hj.1] at this
    simpa using this
  · intro s
    refine ⟨hl, fun i j hi hj => ?_⟩
    rw [e a _ hi, e a _ hj, e b _ (by omega), e b _ (by omega)]
    have := s i j ⟨by omega, by omega⟩ ⟨by omega, by omega⟩
    simpa using this
theorem link_cn {n : Nat} {L : List (Int × Int)} (hL : okL n L) {i j : Int} (hi : 0 ≤ i ∧ i < n) (hj : 0 ≤ j ∧ j < n) : at0 (linkT n L) i = at0 (linkT n L) j ↔ Cn (lE L) i j := by
  have s := number_same (roundsC L n (rg n))
  have hl : (roundsC L n (rg n)).length = n := by rw [roundsC_len, rg_len]
  have := (same_at0 (a := roundsC L n (rg n)) (b := linkT n L) (by rw [hl, linkT_len])).mp s i j (by omega) (by omega)
  rw [← this]
  exact rounds_cn hL hi hj
/-- one merge of labels -/
def mergeC (fd : List Int) (p : Int × Int) : List Int := fd.map fun x => if x = at0 fd p.2 then at0 fd p.1 else x
@[simp] theorem mergeC_len (fd : List Int) (p : Int × Int) : (mergeC fd p).length = fd.length := by unfold mergeC; rw [List.length_map]
theorem mergesC_len : ∀ (L : List (Int × Int)) (fd : List Int), (L.foldl mergeC fd).length = fd.length
  | [], fd => rfl
  | p :: L, fd => by rw [List.foldl_cons, mergesC_len L, mergeC_len]
theorem at0_map {xs : List Int} {f : Int → Int} {i : Int} (h : 0 ≤ i ∧ i < xs.length) : at0 (xs.map f) i = f (at0 xs i) := by
  have h1 := at0_get (xs := xs.map f) (i := i.toNat) (by rw [List.length_map]; omega)
  have h2 := at0_get (xs := xs) (i := i.toNat) (by omega)
  rw [Int.toNat_of_nonneg h.1] at h1 h2
  rw [h1, h2, List.getElem_map]
theorem cn_add {E : Int → Int → Prop} {k j x y : Int} (h : Cn (fun a b => E a b ∨ (a = k ∧ b = j)) x y) : Cn E x y ∨ (Cn E x k ∧ Cn E j y) ∨ (Cn E x j ∧ Cn E k y) := by
  induction h with
  | refl => exact .inl (.refl _)
  | @snoc b c _ e ih =>
    have old : (E b c ∨ E c b) → Cn E x c ∨ (Cn E x k ∧ Cn E j c) ∨ (Cn E x j ∧ Cn E k c) := fun e => by
      rcases ih with h | ⟨h1, h2⟩ | ⟨h1, h2⟩
      · exact .inl (.snoc h e)
      · exact .inr (.inl ⟨h1, .snoc h2 e⟩)
      · exact .inr (.inr ⟨h1, .snoc h2 e⟩)
    rcases e with (e | ⟨rfl, rfl⟩) | (e | ⟨rfl, rfl⟩)
    · exact old (.inl e)
    · rcases ih with h | ⟨h1, h2⟩ | ⟨h1, h2⟩
      · exact .inr (.inl ⟨h, .refl _⟩)
      · exact .inr (.inl ⟨h1, .refl _⟩)
      · exact .inl h1
    · exact old (.inr e)
    · rcases ih with h | ⟨h1, h2⟩ | ⟨h1, h2⟩
      · exact .inr (.inr ⟨h, .refl _⟩)
      · exact .inl h1
      · exact .inr (.inr ⟨h1, .refl _⟩)
theorem merges_cn {n : Nat} : ∀ (L : List (Int × Int)) (fd : List Int) (E : Int → Int → Prop), okL n L → fd.length = n → (∀ i j : Int, (0 ≤ i ∧ i < n) → (0 ≤ j ∧ j < n) → (at0 fd i = at0 fd j ↔ Cn E i j)) →
    ∀ i j : Int, (0 ≤ i ∧ i < n) → (0 ≤ j ∧ j < n) → (at0 (L.foldl mergeC fd) i = at0 (L.foldl mergeC fd) j ↔ Cn (fun a b => E a b ∨ (a, b) ∈ L) i j)
  | [], fd, E, _, _, h, i, j, hi, hj => by
    rw [List.foldl_nil, h i j hi hj]
    exact ⟨Cn.mono fun a b e => .inl e, Cn.mono fun a b e => e.elim id (fun z => by cases z)⟩
  | p :: L, fd, E, hL, hl, h, i, j, hi, hj => by
    have hp := hL p List.mem_cons_self
    rw [List.foldl_cons, merges_cn L (mergeC fd p) (fun a b => E a b ∨ (a = p.1 ∧ b = p.2)) (fun q hq => hL q (List.mem_cons_of_mem _ hq)) (by rw [mergeC_len, hl]) ?_ i j hi hj]
    · constructor
      · refine Cn.mono fun a b e => ?_
        rcases e with (e | ⟨e1, e2⟩) | e
        · exact .inl e
        · exact .inr (by rw [e1, e2]; exact List.mem_cons_self)
        · exact .inr (List.mem_cons_of_mem _ e)
      · refine Cn.mono fun a b e => ?_
        rcases e with e | e
        · exact .inl (.inl e)
        · rcases List.mem_cons.mp e with z | z
          · exact .inl (.inr ⟨by rw [← z], by rw [← z]⟩)
          · exact .inr z
    · intro x y hx hy
      unfold mergeC
      rw [at0_map (by omega), at0_map (by omega)]
      have hxy := h x y hx hy
      have hxk := h x p.1 hx hp.1
      have hxj := h x p.2 hx hp.2
      have hyk := h y p.1 hy hp.1
      have hyj := h y p.2 hy hp.2
      have up : ∀ {a b}, Cn E a b → Cn (fun a b => E a b ∨ (a = p.1 ∧ b = p.2)) a b := fun c => c.mono fun _ _ e => .inl e
      have pp : Cn (fun a b => E a b ∨ (a = p.1 ∧ b = p.2)) p.1 p.2 := .one (.inl (.inr ⟨rfl, rfl⟩))
      constructor
      · intro e
        by_cases q1 : at0 fd x = at0 fd p.2
        · by_cases q2 : at0 fd y = at0 fd p.2
          · exact up (hxy.mp (q1.trans q2.symm))
          · rw [if_pos q1, if_neg q2] at e
            exact (up (hxj.mp q1)).trans (pp.symm.trans (up (hyk.mp e.symm)).symm)
        · by_cases q2 : at0 fd y = at0 fd p.2
          · rw [if_neg q1, if_pos q2] at e
            exact (up (hxk.mp e)).trans (pp.trans (up (hyj.mp q2)).symm)
          · rw [if_neg q1, if_neg q2] at e
            exact up (hxy.mp e)
      · intro c
        rcases cn_add c with c | ⟨c1, c2⟩ | ⟨c1, c2⟩
        · rw [hxy.mpr c]
        · have e1 := hxk.mpr c1
          have e2 := hyj.mpr c2.symm
          rw [if_pos e2, e1]
          split
          · rfl
          · rfl
        · have e1 := hxj.mpr c1
          have e2 := hyk.mpr c2.symm
          rw [if_pos e1, e2]
          split
          · rfl
          · rfl
/-- both ways of linking -/
theorem link_merge {n : Nat} {L : List (Int × Int)} (hL : okL n L) : linkT n L = number (L.foldl mergeC (rg n)) := by
  unfold linkT
  have l1 : (roundsC L n (rg n)).length = n := by rw [roundsC_len, rg_len]
  have l2 : (L.foldl mergeC (rg n)).length = n := by rw [mergesC_len, rg_len]
  refine number_congr ((same_at0 (by rw [l1, l2])).mpr fun i j hi hj => ?_)
  rw [l1] at hi hj
  rw [rounds_cn hL hi hj, merges_cn L (rg n) (fun _ _ => False) hL (rg_len n) (fun i j hi hj => ?_) i j hi hj]
  · exact ⟨Cn.mono fun a b e => .inr e, Cn.mono fun a b e => e.elim False.elim id⟩
  · rw [at0_rg hi, at0_rg hj]
    constructor
    · intro e; rw [e]; exact .refl _
    · intro c
      induction c with
      | refl => rfl
      | snoc _ e => rcases e with e | e <;> exact e.elim
end DL

/-! Walks by their length; what relaxing finds. -/
namespace DL
/-- a walk of so many steps -/
inductive Wa (E : Int → Int → Prop) (a : Int) : Nat → Int → Prop
  | zero : Wa E a 0 a
  | succ {n : Nat} {v u : Int} : Wa E a n v → (E v u ∨ E u v) → Wa E a (n + 1) u
section
variable {E : Int → Int → Prop} {a : Int}
theorem Wa.cn {n : Nat} {v : Int} (h : Wa E a n v) : Cn E a v := by
  induction h with
  | zero => exact .refl _
  | succ _ e ih => exact .snoc ih e
theorem cn_wa {v : Int} (h : Cn E a v) : ∃ n, Wa E a n v := by
  induction h with
  | refl => exact ⟨0, .zero⟩
  | snoc _ e ih =>
    obtain ⟨n, w⟩ := ih
    exact ⟨n + 1, w.succ e⟩
/-- the shortest -/
def Mn (E : Int → Int → Prop) (a : Int) (k : Nat) (v : Int) : Prop := Wa E a k v ∧ ∀ j, Wa E a j v → k ≤ j
theorem Mn.uniq {i j : Nat} {v : Int} (h : Mn E a i v) (k : Mn E a j v) : i = j := Nat.le_antisymm (h.2 j k.1) (k.2 i h.1)
theorem mn_of : ∀ {k : Nat} {v : Int}, Wa E a k v → ∃ j, j ≤ k ∧ Mn E a j v := by
  intro k
  induction k using Nat.strongRecOn with
  | ind k ih =>
    intro v h
    by_cases q : ∃ j, j < k ∧ Wa E a j v
    · obtain ⟨j, hj, w⟩ := q
      obtain ⟨i, hi, m⟩ := ih j hj w
      exact ⟨i, by omega, m⟩
    · exact ⟨k, Nat.le_refl _, h, fun j w => by
        rcases Nat.lt_or_ge j k with z | z
        · exact absurd ⟨j, z, w⟩ q
        · exact z⟩
theorem mn_pred {k : Nat} {u : Int} (h : Mn E a (k + 1) u) : ∃ v, Mn E a k v ∧ (E v u ∨ E u v) := by
  obtain ⟨w, m⟩ := h
  cases w with
  | @succ _ v _ w e =>
    refine ⟨v, ⟨w, fun j wj => ?_⟩, e⟩
    have := m (j + 1) (wj.succ e)
    omega
theorem mn_list : ∀ {k : Nat} {v : Int}, Mn E a k v → ∃ S : List Int, S.length = k + 1 ∧ S.Nodup ∧ ∀ x ∈ S, ∃ i, i ≤ k ∧ Mn E a i x
  | 0, v, h => ⟨[v], rfl, by simp, fun x hx => ⟨0, Nat.le_refl _, by rw [List.mem_singleton.mp hx]; exact h⟩⟩
  | k + 1, u, h => by
    obtain ⟨v, hv, _⟩ := mn_pred h
    obtain ⟨S, l, nd, hS⟩ := mn_list hv
    refine ⟨u :: S, by rw [List.length_cons, l], List.nodup_cons.mpr ⟨fun hu => ?_, nd⟩, fun x hx => ?_⟩
    · obtain ⟨i, hi, m⟩ := hS u hu
      have := m.uniq h
      omega
    · rcases List.mem_cons.mp hx with q | q
      · rw [q]; exact ⟨k + 1, Nat.le_refl _, h⟩
      · obtain ⟨i, hi, m⟩ := hS x q
        exact ⟨i, by omega, m⟩
end
section
variable {n : Nat} {L : List (Int × Int)} {a : Int}
theorem wa_range (hL : okL n L) (ha : 0 ≤ a ∧ a < n) {k : Nat} {v : Int} (h : Wa (lE L) a k v) : 0 ≤ v ∧ v < n := okL_cn hL h.cn ha
theorem mn_lt (hL : okL n L) (ha : 0 ≤ a ∧ a < n) {k : Nat} {v : Int} (h : Mn (lE L) a k v) : k < n := by
  obtain ⟨S, l, nd, hS⟩ := mn_list h
  have := nodup_sub_len S (rg n) nd fun x hx => by
    obtain ⟨i, _, m⟩ := hS x hx
    exact rg_mem.mpr (wa_range hL ha m.1)
  rw [rg_len] at this
  omega
theorem cn_mn {v : Int} (h : Cn (lE L) a v) : ∃ k, Mn (lE L) a k v := by
  obtain ⟨k, w⟩ := cn_wa h
  obtain ⟨j, _, m⟩ := mn_of w
  exact ⟨j, m⟩
/-! ### relaxing -/
theorem dcVal_put (kvs : List (Int × Int)) (k v x : Int) : dcVal (dcPut kvs k v) x = if x = k then some v else dcVal kvs x := by
  unfold dcPut
  split
  · rename_i h
    have key : ∀ kvs : List (Int × Int), (kvs.any fun p => decide (p.1 = k)) = true → dcVal (kvs.map fun p => if p.1 = k then (p.1, v) else p) x = if x = k then some v else dcVal kvs x := by
      intro kvs
      induction kvs with
      | nil => intro h; simp at h
      | cons p r ih =>
        intro h
        unfold dcVal
        rw [List.map_cons, List.find?_cons, List.find?_cons]
        by_cases e : p.1 = k
        · rw [if_pos e]
          by_cases e2 : x = k
          · subst e2
            rw [if_pos rfl, decide_eq_true e]
            rfl
          · have e3 : ¬ p.1 = x := fun z => e2 (z.symm.trans e)
            rw [if_neg e2, decide_eq_false e3]
            dsimp only
            have r1 : ∀ r : List (Int × Int), ((r.map fun p => if p.1 = k then (p.1, v) else p).find? fun p => decide (p.1 = x)).map (·.2) = (r.find? fun p => decide (p.1 = x)).map (·.2) := by
              intro r
              induction r with
              | nil => rfl
              | cons q r ih2 =>
                rw [List.map_cons, List.find?_cons, List.find?_cons]
                by_cases f : q.1 = k
                · have f3 : ¬ q.1 = x := fun z => e2 (z.symm.trans f)
                  rw [if_pos f, decide_eq_false f3]
                  exact ih2
                · rw [if_neg f]
                  by_cases g : q.1 = x
                  · rw [decide_eq_true g]
                  · rw [decide_eq_false g]
                    exact ih2
            exact r1 r
        · rw [if_neg e]
          by_cases e2 : p.1 = x
          · have e3 : ¬ x = k := fun z => e (e2.trans z)
            rw [if_neg e3, decide_eq_true e2]
          · rw [decide_eq_false e2]
            have h2 : (r.any fun p => decide (p.1 = k)) = true := by
              rw [List.any_cons, decide_eq_false e, Bool.false_or] at h
              exact h
            exact ih h2
    exact key kvs h
  · rename_i h
    have h2 : ∀ p ∈ kvs, ¬ p.1 = k := fun p hp z => h (List.any_eq_true.mpr ⟨p, hp, decide_eq_true z⟩)
    unfold dcVal
    rw [List.find?_append]
    by_cases e : x = k
    · subst e
      have : kvs.find? (fun p => decide (p.1 = x)) = none := List.find?_eq_none.mpr fun p hp => by simpa using h2 p hp
      rw [this, if_pos rfl]
      simp
    · rw [if_neg e]
      have : ¬ k = x := fun z => e z.symm
      cases kvs.find? (fun p => decide (p.1 = x)) with
      | some p => rfl
      | none => simp [this]
def relT (n : Nat) (kvs : List (Int × Int)) (p : Int × Int) : List (Int × Int) := match dcVal kvs p.1 with
  | some c => if c + 1 < (dcVal kvs p.2).getD n then dcPut kvs p.2 (c + 1) else kvs
  | none => kvs
def Rs (n : Nat) (L : List (Int × Int)) (a : Int) (kvs : List (Int × Int)) : Prop := ∀ v m, dcVal kvs v = some m → ∃ k : Nat, m = k ∧ k < n ∧ Wa (lE L) a k v
def Rc (n : Nat) (L : List (Int × Int)) (a : Int) (r : Nat) (kvs : List (Int × Int)) : Prop := ∀ (v : Int) (k : Nat), k ≤ r → k < n → Wa (lE L) a k v → ∃ m, dcVal kvs v = some m ∧ m ≤ k
theorem rel_mono {kvs : List (Int × Int)} {p : Int × Int} {v m : Int} (h : dcVal kvs v = some m) : ∃ m', dcVal (relT n kvs p) v = some m' ∧ m' ≤ m := by
  unfold relT
  split
  · rename_i c hc
    split
    · rename_i hlt
      rw [dcVal_put]
      by_cases e : v = p.2
      · subst e
        rw [if_pos rfl]
        rw [h] at hlt
        exact ⟨_, rfl, by have : c + 1 < m := hlt; omega⟩
      · rw [if_neg e]; exact ⟨m, h, Int.le_refl _⟩
    · exact ⟨m, h, Int.le_refl _⟩
  · exact ⟨m, h, Int.le_refl _⟩
theorem rel_sound {kvs : List (Int × Int)} {p : Int × Int} (hs : Rs n L a kvs) (hp : p ∈ L ∨ (p.2, p.1) ∈ L) : Rs n L a (relT n kvs p) := by
  unfold relT
  split
  · rename_i c hc
    split
    · rename_i hlt
      intro v m hv
      rw [dcVal_put] at hv
      by_cases e : v = p.2
      · rw [if_pos e] at hv
        cases hv
        obtain ⟨k, rfl, hk, w⟩ := hs _ _ hc
        refine ⟨k + 1, by omega, ?_, ?_⟩
        · cases e2 : dcVal kvs p.2 with
          | none => rw [e2] at hlt; have : (k : Int) + 1 < n := hlt; omega
          | some b =>
            rw [e2] at hlt
            obtain ⟨k2, rfl, hk2, _⟩ := hs _ _ e2
            have : (k : Int) + 1 < k2 := hlt
            omega
        · rw [e]
          exact w.succ hp
      · rw [if_neg e] at hv
        exact hs v m hv
    · exact hs
  · exact hs
theorem rel_hit {kvs : List (Int × Int)} {p : Int × Int} {c : Int} (hc : dcVal kvs p.1 = some c) (hn : c + 1 < n) : ∃ m, dcVal (relT n kvs p) p.2 = some m ∧ m ≤ c + 1 := by
  unfold relT
  rw [hc]
  dsimp only
  split
  · rw [dcVal_put, if_pos rfl]; exact ⟨_, rfl, Int.le_refl _⟩
  · rename_i h
    cases e2 : dcVal kvs p.2 with
    | none => rw [e2] at h; exact absurd (show c + 1 < (n : Int) from hn) h
    | some b => rw [e2] at h; exact ⟨b, rfl, by have : ¬ (c + 1 < b) := h; omega⟩
theorem sweep_mono : ∀ (P : List (Int × Int)) {kvs : List (Int × Int)} {v m : Int}, dcVal kvs v = some m → ∃ m', dcVal (P.foldl (relT n) kvs) v = some m' ∧ m' ≤ m
  | [], _, _, m, h => ⟨m, h, Int.le_refl _⟩
  | p :: P, kvs, v, m, h => by
    obtain ⟨m1, h1, l1⟩ := rel_mono (n := n) (p := p) h
    obtain ⟨m2, h2, l2⟩ := sweep_mono P h1
    exact ⟨m2, h2, by omega⟩
theorem sweep_sound : ∀ (P : List (Int × Int)) {kvs : List (Int × Int)}, (∀ p ∈ P, p ∈ L ∨ (p.2, p.1) ∈ L) → Rs n L a kvs → Rs n L a (P.foldl (relT n) kvs)
  | [], _, _, h => h
  | p :: P, kvs, hp, h => sweep_sound P (fun q hq => hp q (List.mem_cons_of_mem _ hq)) (rel_sound h (hp p List.mem_cons_self))
theorem sweep_hit : ∀ (P : List (Int × Int)) {kvs : List (Int × Int)} {p : Int × Int} {c : Int}, p ∈ P → dcVal kvs p.1 = some c → c + 1 < n → ∃ m, dcVal (P.foldl (relT n) kvs) p.2 = some m ∧ m ≤ c + 1
  | q :: P, kvs, p, c, hp, hc, hn => by
    rcases List.mem_cons.mp hp with e | hp
    · subst e
      obtain ⟨m, h, l⟩ := rel_hit hc hn
      obtain ⟨m2, h2, l2⟩ := sweep_mono (n := n) P h
      exact ⟨m2, h2, by omega⟩
    · obtain ⟨m1, h1, l1⟩ := rel_mono (n := n) (p := q) hc
      obtain ⟨m, h, l⟩ := sweep_hit P hp h1 (by omega)
      exact ⟨m, h, by omega⟩
def bothW (L : List (Int × Int)) : List (Int × Int) := L ++ L.map fun p => (p.2, p.1)
theorem both_mem {p : Int × Int} : p ∈ bothW L ↔ p ∈ L ∨ (p.2, p.1) ∈ L := by
  unfold bothW
  rw [List.mem_append, List.mem_map]
  constructor
  · rintro (h | ⟨q, hq, rfl⟩)
    · exact .inl h
    · exact .inr hq
  · rintro (h | h)
    · exact .inl h
    · exact .inr ⟨_, h, rfl⟩
theorem round_c {r : Nat} {kvs : List (Int × Int)} (h : Rc n L a r kvs) : Rc n L a (r + 1) ((bothW L).foldl (relT n) kvs) := by
  intro v k hk hn w
  rcases Nat.lt_or_ge k (r + 1) with hlt | hge
  · obtain ⟨m, h1, l⟩ := h v k (by omega) hn w
    obtain ⟨m', h2, l2⟩ := sweep_mono (n := n) (bothW L) h1
    exact ⟨m', h2, by omega⟩
  · have e : k = r + 1 := by omega
    subst e
    cases w with
    | @succ _ u _ w e =>
      obtain ⟨m, h1, l⟩ := h u r (Nat.le_refl _) (by omega) w
      have hp : (u, v) ∈ bothW L := both_mem.mpr e
      obtain ⟨m', h2, l2⟩ := sweep_hit (n := n) (bothW L) hp h1 (by omega)
      exact ⟨m', h2, by omega⟩
def roundsR (n : Nat) (L : List (Int × Int)) : Nat → List (Int × Int) → List (Int × Int)
  | 0, kvs => kvs
  | t + 1, kvs => roundsR n L t ((bothW L).foldl (relT n) kvs)
theorem rounds_r : ∀ (t r : Nat) {kvs : List (Int × Int)}, Rs n L a kvs → Rc n L a r kvs → Rs n L a (roundsR n L t kvs) ∧ Rc n L a (r + t) (roundsR n L t kvs)
  | 0, r, _, h1, h2 => ⟨h1, h2⟩
  | t + 1, r, kvs, h1, h2 => by
    have := rounds_r t (r + 1) (sweep_sound (bothW L) (fun p hp => both_mem.mp hp) h1) (round_c h2)
    rw [show r + 1 + t = r + (t + 1) by omega] at this
    exact this
theorem start_rc (hn : 0 < n) : Rs n L a [(a, 0)] ∧ Rc n L a 0 [(a, 0)] := by
  constructor
  · intro v m h
    unfold dcVal at h
    rw [List.find?_cons] at h
    by_cases e : a = v
    · rw [decide_eq_true e] at h
      cases h
      exact ⟨0, rfl, hn, by rw [← e]; exact .zero⟩
    · rw [decide_eq_false e] at h
      cases h
  · intro v k hk _ w
    have : k = 0 := by omega
    subst this
    cases w
    exact ⟨0, by simp [dcVal], Int.le_refl _⟩
def distT (n : Nat) (L : List (Int × Int)) (a : Int) : List (Int × Int) := roundsR n L n [(a, 0)]
/-- what the rounds say -/
theorem dist_some (hL : okL n L) (ha : 0 ≤ a ∧ a < n) {v : Int} {k : Nat} (h : Mn (lE L) a k v) : dcVal (distT n L a) v = some (k : Int) := by
  obtain ⟨h1, h2⟩ := start_rc (n := n) (L := L) (a := a) (by omega)
  obtain ⟨s, c⟩ := rounds_r n 0 h1 h2
  have hk := mn_lt hL ha h
  obtain ⟨m, e, l⟩ := c v k (by omega) hk h.1
  obtain ⟨j, rfl, _, w⟩ := s v m e
  have := h.2 j w
  show dcVal (roundsR n L n [(a, 0)]) v = _
  rw [e, show j = k by omega]
theorem dist_none {v : Int} (ha : 0 ≤ a ∧ a < n) (h : ¬ Cn (lE L) a v) : dcVal (distT n L a) v = none := by
  obtain ⟨h1, h2⟩ := start_rc (n := n) (L := L) (a := a) (by omega)
  obtain ⟨s, c⟩ := rounds_r n 0 h1 h2
  cases e : dcVal (distT n L a) v with
  | none => rfl
  | some m =>
    obtain ⟨j, _, _, w⟩ := s v m e
    exact absurd w.cn h
end
end DL

/-! A search by levels. -/
namespace DL
open PySem PySem.Spec PyProof.Rows L2
def lastI (row : List Int) : Int := at0 row ((row.length : Int) + -1)
theorem lastI_snoc (row : List Int) (x : Int) : lastI (row ++ [x]) = x := by
  unfold lastI at0
  rw [List.length_append, List.length_singleton, show (((row.length + 1 : Nat) : Int) + -1).toNat = row.length by omega, List.getD_eq_getElem?_getD, List.getElem?_concat_length]
  rfl
theorem lastI_at {row : List Int} (h : 0 < row.length) : row[row.length - 1]? = some (lastI row) := by
  unfold lastI at0
  have e : ((row.length : Int) + -1).toNat = row.length - 1 := by omega
  rw [e, List.getD_eq_getElem?_getD, List.getElem?_eq_getElem (by omega)]
  rfl
def eB (L : List (Int × Int)) (x y : Int) : Prop := (x, y) ∈ L ∨ (y, x) ∈ L
instance (L : List (Int × Int)) (x y : Int) : Decidable (eB L x y) := by unfold eB; infer_instance
def stepB (L : List (Int × Int)) (row : List Int) (st : List Int × List (List Int)) (x : Int) : List Int × List (List Int) := if x ∉ st.1 ∧ eB L (lastI row) x then (st.1 ++ [x], st.2 ++ [row ++ [x]]) else st
def turnT (n : Nat) (L : List (Int × Int)) (last : Int) (st : List Int × List (List Int)) (row : List Int) : Except D (List Int × List (List Int)) := if lastI row = last then .error (eL row) else .ok ((rg n).foldl (stepB L row) st)
def levT (n : Nat) (L : List (Int × Int)) (last : Int) (st : List (List Int) × List Int) (_ : Int) : Except D (List (List Int) × List Int) := match st.1.foldlM (turnT n L last) (st.2, []) with
  | .ok p => .ok (p.2, p.1)
  | .error d => .error d
/-- a row of steps -/
def Pth (L : List (Int × Int)) (a : Int) (row : List Int) : Prop := row[0]? = some a ∧ ∀ i x y, row[i]? = some x → row[i + 1]? = some y → eB L x y
section
variable {n : Nat} {L : List (Int × Int)} {a last : Int} {t : Nat}
theorem pth_snoc {row : List Int} {x : Int} (h : Pth L a row) (e : eB L (lastI row) x) : Pth L a (row ++ [x]) := by
  have hl : 0 < row.length := by
    have := (List.getElem?_eq_some_iff.mp h.1).1
    exact this
  refine ⟨by rw [List.getElem?_append_left hl]; exact h.1, fun i u v h1 h2 => ?_⟩
  have hi := (List.getElem?_eq_some_iff.mp h2).1
  rw [List.length_append, List.length_singleton] at hi
  rw [List.getElem?_append_left (by omega)] at h1
  rcases Nat.lt_or_ge (i + 1) row.length with q | q
  · rw [List.getElem?_append_left q] at h2
    exact h.2 i u v h1 h2
  · have ei : i + 1 = row.length := by omega
    rw [ei, List.getElem?_concat_length] at h2
    cases h2
    have := lastI_at hl
    rw [show row.length - 1 = i by omega, h1] at this
    cases this
    exact e
/-- what stands at a level -/
structure Lv (n : Nat) (L : List (Int × Int)) (a : Int) (t : Nat) (rows : List (List Int)) (seen : List Int) : Prop where
  r1 : ∀ row ∈ rows, Pth L a row ∧ row.length = t + 1 ∧ Mn (lE L) a t (lastI row)
  r2 : ∀ v, Mn (lE L) a t v → ∃ row ∈ rows, lastI row = v
  s1 : ∀ v ∈ seen, ∃ k, k ≤ t ∧ Mn (lE L) a k v
  s2 : ∀ v k, k ≤ t → Mn (lE L) a k v → v ∈ seen
structure Pi (n : Nat) (L : List (Int × Int)) (a : Int) (t : Nat) (seen : List Int) (st : List Int × List (List Int)) : Prop where
  b : ∀ v ∈ seen, v ∈ st.1
  q : ∀ v ∈ st.1, v ∈ seen ∨ ∃ row ∈ st.2, lastI row = v
  c : ∀ row ∈ st.2, Pth L a row ∧ row.length = t + 2 ∧ Mn (lE L) a (t + 1) (lastI row)
theorem step_pi {rows : List (List Int)} {seen : List Int} (lv : Lv n L a t rows seen) {row : List Int} (hr : row ∈ rows) {st : List Int × List (List Int)} (p : Pi n L a t seen st) (x : Int) :
    Pi n L a t seen (stepB L row st x) ∧ (∀ v ∈ st.1, v ∈ (stepB L row st x).1) ∧ (eB L (lastI row) x → x ∈ (stepB L row st x).1) := by
  obtain ⟨q1, q2, q3⟩ := lv.r1 row hr
  unfold stepB
  split
  · rename_i h
    obtain ⟨hx, he⟩ := h
    have w : Wa (lE L) a (t + 1) x := q3.1.succ he
    have m : Mn (lE L) a (t + 1) x := ⟨w, fun j wj => by
      rcases Nat.lt_or_ge j (t + 1) with z | z
      · obtain ⟨i, hi, mi⟩ := mn_of wj
        exact absurd (p.b x (lv.s2 x i (by omega) mi)) hx
      · exact z⟩
    refine ⟨⟨fun v hv => List.mem_append_left _ (p.b v hv), fun v hv => ?_, fun r hr2 => ?_⟩, fun v hv => List.mem_append_left _ hv, fun _ => List.mem_append_right _ (List.mem_singleton.mpr rfl)⟩
    · rcases List.mem_append.mp hv with z | z
      · rcases p.q v z with y | ⟨r, hr2, e⟩
        · exact .inl y
        · exact .inr ⟨r, List.mem_append_left _ hr2, e⟩
      · rw [List.mem_singleton.mp z]
        exact .inr ⟨row ++ [x], List.mem_append_right _ (List.mem_singleton.mpr rfl), lastI_snoc row x⟩
    · rcases List.mem_append.mp hr2 with z | z
      · exact p.c r z
      · rw [List.mem_singleton.mp z]
        exact ⟨pth_snoc q1 he, by rw [List.length_append, List.length_singleton, q2], by rw [lastI_snoc]; exact m⟩
  · rename_i h
    refine ⟨p, fun v hv => hv, fun he => ?_⟩
    by_cases z : x ∈ st.1
    · exact z
    · exact absurd ⟨z, he⟩ h
theorem fold_pi {rows : List (List Int)} {seen : List Int} (lv : Lv n L a t rows seen) {row : List Int} (hr : row ∈ rows) : ∀ (xs : List Int) {st : List Int × List (List Int)}, Pi n L a t seen st →
    Pi n L a t seen (xs.foldl (stepB L row) st) ∧ (∀ v ∈ st.1, v ∈ (xs.foldl (stepB L row) st).1) ∧ ∀ x ∈ xs, eB L (lastI row) x → x ∈ (xs.foldl (stepB L row) st).1
  | [], st, p => ⟨p, fun v hv => hv, fun x hx => nomatch hx⟩
  | y :: xs, st, p => by
    obtain ⟨p1, m1, h1⟩ := step_pi lv hr p y
    obtain ⟨p2, m2, h2⟩ := fold_pi lv hr xs p1
    refine ⟨p2, fun v hv => m2 v (m1 v hv), fun x hx e => ?_⟩
    rcases List.mem_cons.mp hx with q | q
    · rw [q] at e ⊢
      exact m2 y (h1 e)
    · exact h2 x q e
theorem turn_pi {rows : List (List Int)} {seen : List Int} (lv : Lv n L a t rows seen) : ∀ (rs : List (List Int)), (∀ r ∈ rs, r ∈ rows) → ∀ {st : List Int × List (List Int)}, Pi n L a t seen st →
    (∃ row ∈ rs, lastI row = last ∧ rs.foldlM (turnT n L last) st = .error (eL row)) ∨
    (∃ st', rs.foldlM (turnT n L last) st = .ok st' ∧ Pi n L a t seen st' ∧ (∀ r ∈ rs, lastI r ≠ last) ∧ (∀ v ∈ st.1, v ∈ st'.1) ∧ ∀ r ∈ rs, ∀ x ∈ rg n, eB L (lastI r) x → x ∈ st'.1)
  | [], _, st, p => .inr ⟨st, rfl, p, fun r hr => (nomatch hr), fun v hv => hv, fun r hr => (nomatch hr)⟩
  | r :: rs, hrs, st, p => by
    rw [List.foldlM_cons]
    unfold turnT
    by_cases e : lastI r = last
    · rw [if_pos e]
      exact .inl ⟨r, List.mem_cons_self, e, rfl⟩
    · rw [if_neg e]
      obtain ⟨p1, m1, h1⟩ := fold_pi lv (hrs r List.mem_cons_self) (rg n) p
      rcases turn_pi lv rs (fun q hq => hrs q (List.mem_cons_of_mem _ hq)) p1 with ⟨row, hr, e1, e2⟩ | ⟨st', e2, p2, ne, m2, h2⟩
      · exact .inl ⟨row, List.mem_cons_of_mem _ hr, e1, e2⟩
      · refine .inr ⟨st', e2, p2, fun q hq => ?_, fun v hv => m2 v (m1 v hv), fun q hq x hx he => ?_⟩
        · rcases List.mem_cons.mp hq with z | z
          · rw [z]; exact e
          · exact ne q z
        · rcases List.mem_cons.mp hq with z | z
          · rw [z] at he; exact m2 x (h1 x hx he)
          · exact h2 q z x hx he
theorem lev_lv (hL : okL n L) (ha : 0 ≤ a ∧ a < n) {rows : List (List Int)} {seen : List Int} (lv : Lv n L a t rows seen) (z : Int) :
    (∃ row ∈ rows, lastI row = last ∧ levT n L last (rows, seen) z = .error (eL row)) ∨
    (∃ rows' seen', levT n L last (rows, seen) z = .ok (rows', seen') ∧ Lv n L a (t + 1) rows' seen' ∧ ¬ Mn (lE L) a t last) := by
  have p0 : Pi n L a t seen (seen, []) := ⟨fun v hv => hv, fun v hv => .inl hv, fun r hr => nomatch hr⟩
  rcases turn_pi (last := last) lv rows (fun r hr => hr) p0 with ⟨row, hr, e1, e2⟩ | ⟨st', e2, p, ne, m, h⟩
  · refine .inl ⟨row, hr, e1, ?_⟩
    unfold levT
    rw [e2]
  · refine .inr ⟨st'.2, st'.1, ?_, ⟨fun r hr => p.c r hr, fun v hv => ?_, fun v hv => ?_, fun v k hk hv => ?_⟩, fun hm => ?_⟩
    · unfold levT
      rw [e2]
    · obtain ⟨u, hu, he⟩ := mn_pred hv
      obtain ⟨r, hr, e⟩ := lv.r2 u hu
      have hx : v ∈ st'.1 := h r hr v (rg_mem.mpr (wa_range hL ha hv.1)) (by rw [e]; exact he)
      rcases p.q v hx with y | y
      · obtain ⟨i, hi, mi⟩ := lv.s1 v y
        have := mi.uniq hv
        omega
      · exact y
    · rcases p.q v hv with y | ⟨r, hr, e⟩
      · obtain ⟨i, hi, mi⟩ := lv.s1 v y
        exact ⟨i, by omega, mi⟩
      · exact ⟨t + 1, Nat.le_refl _, by rw [← e]; exact (p.c r hr).2.2⟩
    · rcases Nat.lt_or_ge k (t + 1) with q | q
      · exact p.b v (lv.s2 v k (by omega) hv)
      · have : k = t + 1 := by omega
        subst this
        obtain ⟨u, hu, he⟩ := mn_pred hv
        obtain ⟨r, hr, e⟩ := lv.r2 u hu
        exact h r hr v (rg_mem.mpr (wa_range hL ha hv.1)) (by rw [e]; exact he)
    · obtain ⟨r, hr, e⟩ := lv.r2 last hm
      exact ne r hr e
theorem levs_ok (hL : okL n L) (ha : 0 ≤ a ∧ a < n) : ∀ (zs : List Int) (t : Nat) {rows : List (List Int)} {seen : List Int}, Lv n L a t rows seen →
    (∀ m, t ≤ m → m < t + zs.length → Mn (lE L) a m last → ∃ row, zs.foldlM (levT n L last) (rows, seen) = .error (eL row) ∧ Pth L a row ∧ row.length = m + 1 ∧ lastI row = last) ∧
    ((∀ m, ¬ Mn (lE L) a m last) → ∃ st, zs.foldlM (levT n L last) (rows, seen) = .ok st)
  | [], t, rows, seen, lv => ⟨fun m h1 h2 => by simp at h2; omega, fun _ => ⟨_, rfl⟩⟩
  | z :: zs, t, rows, seen, lv => by
    rw [List.foldlM_cons]
    rcases lev_lv (last := last) hL ha lv z with ⟨row, hr, e1, e2⟩ | ⟨rows', seen', e2, lv', nm⟩
    · obtain ⟨q1, q2, q3⟩ := lv.r1 row hr
      rw [e1] at q3
      rw [e2]
      refine ⟨fun m _ _ hm => ⟨row, rfl, q1, ?_, e1⟩, fun h => absurd q3 (h t)⟩
      rw [q2, q3.uniq hm]
    · rw [e2]
      obtain ⟨i1, i2⟩ := levs_ok hL ha zs (t + 1) lv'
      refine ⟨fun m h1 h2 hm => ?_, fun h => i2 h⟩
      rw [List.length_cons] at h2
      rcases Nat.lt_or_ge t m with q | q
      · exact i1 m q (by omega) hm
      · have : m = t := by omega
        subst this
        exact absurd hm nm
theorem start_lv : Lv n L a 0 [[a]] [a] where
  r1 := fun row hr => by
    rw [List.mem_singleton.mp hr]
    refine ⟨⟨rfl, fun i x y h1 h2 => ?_⟩, rfl, ?_⟩
    · have := (List.getElem?_eq_some_iff.mp h2).1
      simp at this
    · show Mn (lE L) a 0 a
      exact ⟨.zero, fun j _ => Nat.zero_le j⟩
  r2 := fun v hv => ⟨[a], List.mem_singleton.mpr rfl, by
    cases hv.1
    rfl⟩
  s1 := fun v hv => ⟨0, Nat.le_refl _, by rw [List.mem_singleton.mp hv]; exact ⟨.zero, fun j _ => Nat.zero_le j⟩⟩
  s2 := fun v k hk hv => by
    have : k = 0 := by omega
    subst this
    cases hv.1
    exact List.mem_singleton.mpr rfl
/-- what the search answers -/
def bfsT (n : Nat) (L : List (Int × Int)) (a last : Int) : Except D (List (List Int) × List Int) := (rg n).foldlM (levT n L last) ([[a]], [a])
theorem bfs_some (hL : okL n L) (ha : 0 ≤ a ∧ a < n) {m : Nat} (hm : Mn (lE L) a m last) : ∃ row, bfsT n L a last = .error (eL row) ∧ Pth L a row ∧ row.length = m + 1 ∧ lastI row = last := by
  have hlt := mn_lt hL ha hm
  exact (levs_ok hL ha (rg n) 0 start_lv).1 m (Nat.zero_le _) (by rw [rg_len]; omega) hm
theorem bfs_none (hL : okL n L) (ha : 0 ≤ a ∧ a < n) (h : ¬ Cn (lE L) a last) : ∃ st, bfsT n L a last = .ok st :=
  (levs_ok hL ha (rg n) 0 start_lv).2 fun m hm => h hm.1.cn
/-! ### sizes -/
def okRow (s : List Int) (row : List Int) : Prop := row ≠ [] ∧ row.Nodup ∧ ∀ x ∈ row, x ∈ s
structure Jb (n : Nat) (rows : List (List Int)) (st : List Int × List (List Int)) : Prop where
  nd : st.1.Nodup
  rg : ∀ x ∈ st.1, x ∈ DL.rg n
  le : st.2.length ≤ st.1.length
  r : ∀ row ∈ rows, okRow st.1 row
  l : ∀ row ∈ st.2, okRow st.1 row
theorem Jb.len {rows : List (List Int)} {st : List Int × List (List Int)} (j : Jb n rows st) : st.1.length ≤ n := by
  have := nodup_sub_len st.1 (DL.rg n) j.nd j.rg
  rwa [rg_len] at this
theorem jb_step {rows : List (List Int)} {st : List Int × List (List Int)} (j : Jb n rows st) {row : List Int} (hr : row ∈ rows) {x : Int} (hx : x ∈ DL.rg n) : Jb n rows (stepB L row st x) := by
  unfold stepB
  split
  · rename_i h
    obtain ⟨h1, _⟩ := h
    have grow : ∀ q, okRow st.1 q → okRow (st.1 ++ [x]) q := fun q k => ⟨k.1, k.2.1, fun y hy => List.mem_append_left _ (k.2.2 y hy)⟩
    refine ⟨?_, fun y hy => ?_, by simp; exact j.le, fun q hq => grow q (j.r q hq), fun q hq => ?_⟩
    · rw [List.nodup_append]
      exact ⟨j.nd, by simp, fun y hy z hz e => by rw [List.mem_singleton.mp hz] at e; exact h1 (by rw [← e]; exact hy)⟩
    · rcases List.mem_append.mp hy with z | z
      · exact j.rg y z
      · rw [List.mem_singleton.mp z]; exact hx
    · rcases List.mem_append.mp hq with z | z
      · exact grow q (j.l q z)
      · rw [List.mem_singleton.mp z]
        obtain ⟨k1, k2, k3⟩ := j.r row hr
        refine ⟨by simp, ?_, fun y hy => ?_⟩
        · rw [List.nodup_append]
          exact ⟨k2, by simp, fun y hy z hz e => by rw [List.mem_singleton.mp hz] at e; exact h1 (by rw [← e]; exact k3 y hy)⟩
        · rcases List.mem_append.mp hy with w | w
          · exact List.mem_append_left _ (k3 y w)
          · exact List.mem_append_right _ w
  · exact j
theorem jb_fold {rows : List (List Int)} {row : List Int} (hr : row ∈ rows) : ∀ (xs : List Int), (∀ x ∈ xs, x ∈ DL.rg n) → ∀ {st : List Int × List (List Int)}, Jb n rows st → Jb n rows (xs.foldl (stepB L row) st)
  | [], _, _, j => j
  | x :: xs, h, st, j => jb_fold hr xs (fun y hy => h y (List.mem_cons_of_mem _ hy)) (jb_step j hr (h x List.mem_cons_self))
theorem okRow_len {s row : List Int} (k : okRow s row) (nd : s.Nodup) : 0 < row.length ∧ row.length ≤ s.length := by
  refine ⟨?_, nodup_sub_len row s k.2.1 k.2.2⟩
  cases row with
  | nil => exact absurd rfl k.1
  | cons => simp
end
end DL

/-! What the forms compute, 1. -/
namespace Pg
open PySem PySem.Spec PyProof.Rows L2 DL
theorem is_int_ok (x lo hi : Int) : m_is_int [.int x, .int lo, .int hi] = M.pure (.bool (decide (lo ≤ x ∧ x ≤ hi))) := by
  simp [m_is_int, f_is_int]
theorem rgsB_fold : ∀ (xs : List Int) (m : Int), rgsB m xs = match xs.foldlM (fun (m g : Int) => if 0 ≤ g ∧ g ≤ m + 1 then Except.ok (max m g) else Except.error (PyData.bool false)) m with
    | .ok _ => true
    | .error _ => false
  | [], _ => rfl
  | g :: r, m => by
    rw [List.foldlM_cons]
    unfold rgsB
    by_cases h : 0 ≤ g ∧ g ≤ m + 1
    · rw [decide_eq_true h, Bool.true_and, rgsB_fold r, if_pos h]
      rfl
    · rw [decide_eq_false h, Bool.false_and, if_neg h]
      rfl
theorem rgsB_err : ∀ (xs : List Int) (m : Int) (d : D), xs.foldlM (fun (m g : Int) => if 0 ≤ g ∧ g ≤ m + 1 then Except.ok (max m g) else Except.error (PyData.bool false)) m = Except.error d → d = .bool false
  | [], m, d, h => by cases h
  | g :: r, m, d, h => by
    rw [List.foldlM_cons] at h
    by_cases q : 0 ≤ g ∧ g ≤ m + 1
    · rw [if_pos q] at h
      exact rgsB_err r _ d h
    · rw [if_neg q] at h
      cases h
      rfl
theorem is_grouping_ok (xs : List Int) : m_is_grouping [eL xs] = M.pure (.bool (isG xs)) := by
  have hl := v_forE (t := .nm 2) (body := b_is_grouping_1) (fun (m : Int) ρ => ∃ j, ρ = [.d (eL xs), .d (.int m), j]) (f := Enc.e) (fun (m g : Int) => if 0 ≤ g ∧ g ≤ m + 1 then Except.ok (max m g) else Except.error (PyData.bool false)) xs (-1) [.d (eL xs), .d (.int (-1)), .un] ⟨_, rfl⟩ (by
      rintro x _ m ρ ⟨j, rfl⟩
      refine ⟨_, rfl, ?_⟩
      by_cases h : 0 ≤ x ∧ x ≤ m + 1
      · rw [if_pos h]
        refine ⟨[.d (eL xs), .d (.int (max m x)), .d (.int x)], Or.inl ?_, _, rfl⟩
        simp [b_is_grouping_1, is_int_ok, h]
      · rw [if_neg h]
        simp [b_is_grouping_1, is_int_ok, h])
  have hf := rgsB_fold xs (-1)
  by_cases h1 : 1 ≤ xs.length ∧ xs.length ≤ 7
  · have h2 : ¬((xs.length : Int) < 1 ∨ 7 < (xs.length : Int)) := by omega
    simp [m_is_grouping, f_is_grouping, isG, h1, h2]
    cases hq : xs.foldlM (fun (m g : Int) => if 0 ≤ g ∧ g ≤ m + 1 then Except.ok (max m g) else Except.error (PyData.bool false)) (-1) with
    | ok m =>
      rw [hq] at hl hf
      obtain ⟨ρ', e, j, rfl⟩ := hl
      rw [e]
      simp [hf]
    | error d =>
      rw [hq] at hl hf
      rw [hl, rgsB_err _ _ _ hq]
      simp [hf]
  · have h2 : (xs.length : Int) < 1 ∨ 7 < (xs.length : Int) := by omega
    simp [m_is_grouping, f_is_grouping, isG, h1, h2]
theorem check_grouping_ok {xs : List Int} (h : isG xs = true) : m_check_grouping [eL xs] = M.pure .none := by
  simp [m_check_grouping, f_check_grouping, is_grouping_ok, h]
theorem check_grouping_no {xs : List Int} (h : isG xs = false) : m_check_grouping [eL xs] = M.err "BadGrouping" := by
  simp [m_check_grouping, f_check_grouping, is_grouping_ok, h]
theorem check_place_ok {xs : List Int} {i : Int} (h0 : 0 ≤ i) (h1 : i < xs.length) : m_check_place [eL xs, .int i] = M.pure .none := by
  have : i ≤ (xs.length : Int) - 1 := by omega
  simp [m_check_place, f_check_place, is_int_ok, h0, this]
theorem numbered_loop {α : Type} [DecidableEq α] [Enc α] [Sh α] (l : D) : ∀ (xs k : List α) (fd : List Int) (j : Slot), k.length + xs.length < 100000 → fd.length + xs.length < 100000 →
    ∃ j', forF (.nm 3) b_numbered_1 (xs.map Enc.e) [.d l, .own (k.map Enc.e), .own (fd.map Enc.e), j] = S.nx [.d l, .own ((ddF k xs).map Enc.e), .own ((fd ++ numF k xs).map Enc.e), j']
  | [], k, fd, j, _, _ => ⟨j, by simp [ddF, numF, for_nil]⟩
  | x :: r, k, fd, j, h1, h2 => by
    rw [List.length_cons] at h1 h2
    have hb : ∃ k', k' = (if x ∈ k then k else k ++ [x]) ∧ b_numbered_1 [.d l, .own (k.map Enc.e), .own (fd.map Enc.e), .d (Enc.e x)] = S.nx [.d l, .own (k'.map Enc.e), .own ((fd ++ [(idx x k' : Int)]).map Enc.e), .d (Enc.e x)] := by
      refine ⟨_, rfl, ?_⟩
      simp only [b_numbered_1, v_sSeq, v_sIf, v_xT, v_x2, v_varS, v_var0, v_bind_pure, v_peekS, v_peekO, v_foldL, v_notIn, v_asB, v_bindS_pure]
      by_cases h : x ∈ k
      · have hk := kIndex_l x k h
        simp only [h, decide_true, Bool.not_true, Bool.false_eq_true, if_false, v_sNx, v_seq_nx, if_true]
        rw [v_app rfl (by rw [List.length_map]; omega)]
        simp only [v_xMeth, v_peekS, v_peekO, v_foldL, v_bind_pure, v_lTy, beq_self_eq_true, v_chk, v_xCons, v_varS, v_var0, v_xNil, hk, v_bindS_pure]
        simp
      · have hk := kIndex_l x (k ++ [x]) (by simp)
        simp only [h, decide_false, Bool.not_false, if_true, if_false]
        rw [v_app rfl (by rw [List.length_map]; omega)]
        simp only [v_varS, v_var0, v_bindS_pure, v_seq_nx]
        rw [v_app rfl (by rw [List.length_map]; omega)]
        have e : PyData.list (k.map Enc.e ++ [Enc.e x]) = eL (k ++ [x]) := by unfold eL; simp
        simp only [List.set_cons_succ, List.set_cons_zero, v_xMeth, v_peekS, v_peekO, e, v_bind_pure, v_lTy, beq_self_eq_true, v_chk, v_xCons, v_varS, v_var0, v_xNil, hk, v_bindS_pure]
        simp
    obtain ⟨k', ek, hb⟩ := hb
    have hk' : k'.length ≤ k.length + 1 := by
      rw [ek]
      split
      · omega
      · rw [List.length_append, List.length_singleton]; omega
    obtain ⟨j', e⟩ := numbered_loop l r k' (fd ++ [(idx x k' : Int)]) (.d (Enc.e x)) (by omega) (by rw [List.length_append, List.length_singleton]; omega)
    refine ⟨j', ?_⟩
    rw [List.map_cons, for_cons rfl hb, e]
    rw [show ddF k (x :: r) = ddF k' r by rw [ek]; rfl, show numF k (x :: r) = (idx x k' : Int) :: numF k' r by rw [ek]; rfl]
    simp
theorem numbered_ok {α : Type} [DecidableEq α] [Enc α] [Sh α] {xs : List α} (h : xs.length < 100000) : m_numbered [eL xs] = M.pure (eL (number xs)) := by
  obtain ⟨j', e⟩ := numbered_loop (eL xs) xs [] [] .un (by simpa using h) (by simpa using h)
  have e' : forF (.nm 3) b_numbered_1 (xs.map Enc.e) [.d (eL xs), .own [], .own [], .un] = S.nx [.d (eL xs), .own ((ddF [] xs).map Enc.e), .own ((numF [] xs).map Enc.e), j'] := e
  simp [m_numbered, f_numbered, e']
  rw [v_frz rfl]
  simp
  rfl
theorem law_numbered_loop (xs : List Int) (hx : xs.length < 100000) : ∀ (m i : Nat) (j1 j2 : Slot), i + m = xs.length →
    ∃ j1' j2', forF (.nm 2) b__law_numbered_1 (((List.range' i m).map fun (k : Nat) => (k : Int)).map Enc.e) [.d (eL xs), .own ((number (xs.take i)).map Enc.e), j1, j2] = S.nx [.d (eL xs), .own ((number xs).map Enc.e), j1', j2']
  | 0, i, j1, j2, h => ⟨j1, j2, by rw [List.take_of_length_le (by omega)]; rfl⟩
  | m + 1, i, j1, j2, h => by
    have hi : i < xs.length := by omega
    have hx1 : xs[i]? = some xs[i] := List.getElem?_eq_getElem hi
    have hm : xs[i] ∈ xs := List.getElem_mem hi
    have ht : xs.take (i + 1) = xs.take i ++ [xs[i]] := by rw [List.take_succ, hx1]; rfl
    have hl : (number (xs.take i)).length = i := by rw [number_len, List.length_take]; omega
    have hix : kIx (eL xs) (.int (i : Nat)) = M.pure (.int xs[i]) := kIx_l hx1
    have hb : b__law_numbered_1 [.d (eL xs), .own ((number (xs.take i)).map Enc.e), .d (.int (i : Nat)), j2] = S.nx [.d (eL xs), .own ((number (xs.take (i + 1))).map Enc.e), .d (.int (i : Nat)), .d (.int (idx xs[i] xs : Nat))] := by
      have hin := kIndex_l xs[i] xs hm
      rw [v_eI] at hin
      simp only [b__law_numbered_1, v_sSeq, v_sSet, v_xMeth, v_varS, v_var0, v_bind_pure, v_lTy, beq_self_eq_true, v_chk, v_xCons, v_x2, hix, v_xNil, hin, v_bindS_pure, v_seq_nx, List.set_cons_succ, List.set_cons_zero]
      rw [v_app rfl (by rw [List.length_map]; omega)]
      rw [ht, number_snoc, List.map_append]
      simp only [v_xIf, v_xT, v_x2, v_varS, v_var0, v_bind_pure, v_kLt, v_asB, v_peekS, v_peekO, v_foldL, v_xCall, v_xCons, v_xLst, v_C, v_kSub, v_xNil]
      by_cases hp : xs[i] ∈ xs.take i
      · have h1 : idx xs[i] xs = idx xs[i] (xs.take i) := idx_take hp
        have h2 := ix_lt hp
        rw [List.length_take] at h2
        have h3 : (idx xs[i] xs : Int) < (i : Int) := by omega
        have h4 : (number (xs.take i))[idx xs[i] xs]? = some (idx xs[i] (dd (xs.take i)) : Int) := by
          rw [number_eq, List.getElem?_map, h1, ix_get hp]
          rfl
        have h5 := kIx_l h4
        rw [v_eI] at h5
        have h6 : dd (xs.take i ++ [xs[i]]) = dd (xs.take i) := by rw [dd_snoc, if_pos (dd_mem.mpr hp)]
        rw [h6]
        simp [h3, h5]
      · have h1 : idx xs[i] xs = i := idx_first hx1 hp
        have h2 : ¬xs[i] ∈ dd (xs.take i) := fun z => hp (dd_mem.mp z)
        have h3 : idx xs[i] (dd (xs.take i ++ [xs[i]])) = (dd (xs.take i)).length := by rw [dd_snoc, if_neg h2, idx_new h2]
        have h4 : PyData.list [PyData.int (0 - 1)] = eL [(-1 : Int)] := rfl
        have h5 : kAdd (eL [(-1 : Int)]) (eL (number (xs.take i))) = M.pure (eL (-1 :: number (xs.take i))) := v_add (by rw [hl, List.length_singleton]; omega)
        have h6 : kMax [eL (-1 :: number (xs.take i))] = M.pure (.int (((dd (xs.take i)).length : Int) - 1)) := by
          rw [kMax_l (by simp), maxI_cons, number_max]
        rw [h3, h1, h4]
        simp [h5, h6]
    obtain ⟨j1', j2', e⟩ := law_numbered_loop xs hx m (i + 1) (.d (.int (i : Nat))) (.d (.int (idx xs[i] xs : Nat))) (by omega)
    refine ⟨j1', j2', ?_⟩
    rw [List.range'_succ, List.map_cons, List.map_cons, for_cons rfl hb, e]
theorem law_numbered_ok {xs : List Int} (h : xs.length < 100000) : m__law_numbered [eL xs] = M.pure (eL (number xs)) := by
  obtain ⟨j1, j2, e⟩ := law_numbered_loop xs h xs.length 0 .un .un (by omega)
  have e' : forF (.nm 2) b__law_numbered_1 ((rg xs.length).map Enc.e) [.d (eL xs), .own [], .un, .un] = S.nx [.d (eL xs), .own ((number xs).map Enc.e), j1, j2] := by
    unfold rg
    rw [List.range_eq_range']
    exact e
  have hr : kRg (.int (xs.length : Nat)) = M.pure ((rg xs.length).map Enc.e) := kRg_n (by omega)
  simp only [m__law_numbered, f__law_numbered, v_runF, List.map_cons, List.map_nil, List.length_cons, List.length_nil, v_sSeq, v_sOwn, v_xLst, v_xNil, v_bind_pure, v_bindS_pure, v_ownS, v_seq_nx]
  simp [hr]
  rw [e']
  simp
  rw [v_frz rfl]
  simp
end Pg

/-! What the laws draw. -/
namespace Pg
open PySem PySem.Spec PyProof.Rows L2 DL
section
variable {ρ : List DL.Slot} {w w' : W'} {h : Sm} {fe : X D}
theorem set_ok {i : Nat} {d : D} (e : fe ρ w = .ok d w') : sSeq (sSet i fe) h ρ w = h (ρ.set i (.d d)) w' := by
  unfold sSeq sSet Res.to
  rw [e]
  rfl
theorem ret_ok {d : D} (e : fe ρ w = .ok d w') : sRet fe ρ w = .ret d w' := by
  unfold sRet Res.to
  rw [e]
theorem run_ok {n : Nat} {b : Sm} {ds : List D} {d : D} (e : b (ds.map Slot.d ++ List.replicate (n - ds.length) Slot.un) w = .ret d w') : runF n b ds w = .ok d w' := by
  unfold runF
  rw [e]
/-- a draw, its limit known -/
theorem draw_call {i : Nat} {n : Int} {fn : X D} (d : DW w) (h1 : ρ[i]? = some (.d (hnd 0))) (hn : fn ρ = M.pure (.int n)) (p : 0 < n) (q : n < 1000000) :
    ∃ r w', xCall m__law_draw (xCons (xVar i) (xCons fn xNil)) ρ w = .ok (.int r) w' ∧ 0 ≤ r ∧ r < n ∧ DW w' := by
  obtain ⟨r, w', e, a, b, c⟩ := draw_ok d p q
  refine ⟨r, w', ?_, a, b, c⟩
  rw [xCall_ok (xCons_ok (xVar_ok h1) (xCons_ok (by rw [hn]; rfl) xNil_ok)), e]
/-- as many draws as told -/
theorem draws_ok {n : Nat} {m : Int} {vs : List Nat} {j i : Nat} {fn fi : X D} (d : DW w) (hn : n ≤ 1000) (hi : fi ρ = M.pure (.int (n : Nat)))
    (h1 : ∀ x : Int, ((wipeS ρ vs).set j (.d (.int x)))[i]? = some (.d (hnd 0))) (hm : ∀ x : Int, fn ((wipeS ρ vs).set j (.d (.int x))) = M.pure (.int m)) (p : 0 < m) (q : m < 1000000) :
    ∃ (rs : List Int) (w' : W'), xLc vs (.nm j) (xIt kRg fi) xYes (xCall m__law_draw (xCons (xVar i) (xCons fn xNil))) ρ w = .ok (eL rs) w' ∧ rs.length = n ∧ (∀ r ∈ rs, 0 ≤ r ∧ r < m) ∧ DW w' := by
  obtain ⟨rs, w2, e, l, q2, d2⟩ := lc_draw (vs := vs) (t := .nm j) (fi := xIt kRg fi) (fe := xCall m__law_draw (xCons (xVar i) (xCons fn xNil))) (ρ := ρ) (w := w) (w' := w) (Enc.e : Int → D) (Enc.e : Int → D) (fun r => 0 ≤ r ∧ r < m) (rg n)
    (by rw [v_xIt, hi, v_bind_pure, kRg_n (by omega)]; rfl) d (fun x _ => ⟨_, rfl, fun w d => by
      obtain ⟨r, w', e, a, b, c⟩ := draw_call (fn := fn) d (h1 x) (hm x) p q
      exact ⟨r, w', e, ⟨a, b⟩, c⟩⟩)
  exact ⟨rs, w2, e, by rw [l, rg_len], q2, d2⟩
end
section
variable {ρ : List DL.Slot} {w w' : W'} {h f : Sm} {fe : X D} {ft : X Bool}
theorem good_setE {i : Nat} {d : D} (e : fe ρ = M.pure d) (k : Good (h (ρ.set i (.d d)) w)) : Good (sSeq (sSet i fe) h ρ w) := good_set (by rw [e]; rfl) k
theorem good_ifF (e : ft ρ = M.pure false) (k : Good (h ρ w)) : Good (sSeq (sIf ft f sNx) h ρ w) := good_not (by rw [e]; rfl) k
theorem good_retE (e : fe ρ = M.pure (.bool true)) : Good (sRet fe ρ w) := good_ret (w' := w) (by rw [e]; rfl)
/-- 1 and a draw -/
theorem one_draw {n : Int} (d : DW w) (h1 : ρ[1]? = some (.d (hnd 0))) (p : 0 < n) (q : n < 1000000) :
    ∃ (m : Nat) (w' : W'), x2 kAdd (xC (.int 1)) (xCall m__law_draw (xCons (xVar 1) (xCons (xC (.int n)) xNil))) ρ w = .ok (.int (m : Nat)) w' ∧ 1 ≤ m ∧ (m : Int) ≤ n ∧ DW w' := by
  obtain ⟨r, w', e, a, b, c⟩ := draw_call (fn := xC (.int n)) d h1 rfl p q
  refine ⟨(1 + r).toNat, w', ?_, by omega, by omega, c⟩
  rw [x2_r e, v_kAdd, Int.toNat_of_nonneg (by omega)]
  rfl
end
theorem law_pick_ok {α : Type} [DecidableEq α] [Enc α] [Sh α] {xs : List α} {w : W'} (d : DW w) (h0 : 0 < xs.length) (h1 : xs.length < 1000000) :
    ∃ (a : α) (w' : W'), a ∈ xs ∧ m__law_pick [hnd 0, eL xs] w = .ok (Enc.e a) w' ∧ DW w' := pick_ok d h0 h1
theorem grouping_ok {n : Nat} {w : W'} (d : DW w) (h0 : 1 ≤ n) (h1 : n ≤ 7) : ∃ (row : List Int) (w' : W'), m__law_grouping [hnd 0, .int (n : Nat)] w = .ok (eL row) w' ∧ row.length = n ∧ isG row = true ∧ DW w' := by
  obtain ⟨a, w1, ha, e1, d1⟩ := law_pick_ok (xs := [(2 : Int), 3, 7]) d (by decide) (by decide)
  have hb : 0 < a ∧ a < 1000000 := by
    rcases ha with _ | ⟨_, _ | ⟨_, _ | ⟨_, h⟩⟩⟩
    · omega
    · omega
    · omega
    · cases h
  obtain ⟨rs, w2, e2, l2, q2, d2⟩ := draws_ok (n := n) (m := a) (vs := [3]) (j := 3) (i := 0) (fn := xVar 2) (fi := xVar 1) (ρ := [.d (hnd 0), .d (.int (n : Nat)), .d (.int a), .un]) d1 (by omega) rfl (fun _ => rfl) (fun _ => rfl) hb.1 hb.2
  refine ⟨number rs, w2, ?_, by rw [number_len, l2], number_isG (by omega) (by omega), d2⟩
  unfold m__law_grouping
  refine run_ok ?_
  unfold f__law_grouping
  rw [set_ok ((xCall_ok (xCons_ok (xVar_ok rfl) (xCons_ok (d := eL [(2 : Int), 3, 7]) (w1 := w) rfl xNil_ok))).trans e1)]
  refine ret_ok ?_
  refine (xCall_ok (xCons_ok e2 xNil_ok)).trans ?_
  rw [law_numbered_ok (by omega)]
  rfl
end Pg

/-! What the forms compute, 2. -/
namespace Pg
open PySem PySem.Spec PyProof.Rows L2 DL
section
variable {xs : List Int} (h : isG xs = true)
include h
theorem kMax_G : kMax [eL xs] = M.pure (.int (maxI xs)) := by
  have := isG_len h
  exact kMax_l (by omega)
theorem kRgMax_G : kRg (.int (maxI xs + 1)) = M.pure ((rg (nG xs)).map Enc.e) := by
  have h1 := isG_max h
  have h2 := isG_len h
  exact v_rg (by omega) (by omega)
theorem kRgLen_G : kRg (.int (xs.length : Nat)) = M.pure ((rg xs.length).map Enc.e) := by
  have h2 := isG_len h
  exact kRg_n (by omega)
end
theorem kIx_rg {xs : List Int} {k : Int} (h : k ∈ rg xs.length) : kIx (eL xs) (.int k) = M.pure (.int (at0 xs k)) := by
  have := rg_mem.mp h
  exact v_ixI (by omega) (by omega)
theorem groups_of_ok {xs : List Int} (h : isG xs = true) : m_groups_of [eL xs] = M.pure (eL (groupsT xs)) := by
  have h1 := kMax_G h
  have h2 := kRgMax_G h
  have h3 := kRgLen_G h
  simp [m_groups_of, f_groups_of, h1, h2]
  rw [v_map Enc.e (fun g => eL ((rg xs.length).filter fun k => decide (at0 xs k = g))) _ ?_]
  · simp only [v_nerr_pure, v_bindS_pure, v_run_ret]
    unfold eL groupsT
    rw [List.map_map]
    rfl
  · intro g hg
    refine ⟨_, rfl, ?_⟩
    simp [h3]
    rw [v_filter Enc.e (fun k => decide (at0 xs k = g)) Enc.e _ ?_]
    · rfl
    · intro k hk
      refine ⟨_, rfl, ?_, fun _ => rfl⟩
      simp [kIx_rg hk]
theorem law_groups_ok {xs : List Int} (h : isG xs = true) : m__law_groups [eL xs] = M.pure (eL (groupsT xs)) := groups_of_ok h
theorem groups_ok {xs : List Int} (h : isG xs = true) : m_groups [eL xs] = M.pure (eL (groupsT xs)) := by
  simp [m_groups, f_groups, check_grouping_ok h, groups_of_ok h]
theorem count_groups_ok {xs : List Int} (h : isG xs = true) : m_count_groups [eL xs] = M.pure (.int (nG xs : Nat)) := by
  have h1 := kMax_G h
  have h2 := (isG_nG h).1
  simp [m_count_groups, f_count_groups, check_grouping_ok h, h1, h2]
theorem group_with_ok {xs : List Int} (h : isG xs = true) {i : Int} (h0 : 0 ≤ i) (h1 : i < xs.length) : m_group_with [eL xs, .int i] = M.pure (eL (withT xs i)) := by
  have h3 := kRgLen_G h
  have hi : i ∈ rg xs.length := rg_mem.mpr ⟨h0, h1⟩
  simp [m_group_with, f_group_with, check_grouping_ok h, check_place_ok h0 h1, h3]
  rw [v_filter Enc.e (fun k => decide (at0 xs k = at0 xs i)) Enc.e _ ?_]
  · simp [withT]
  · intro k hk
    refine ⟨_, rfl, ?_, fun _ => rfl⟩
    simp [kIx_rg hk, kIx_rg hi]
theorem groupsT_len (xs : List Int) : (groupsT xs).length = nG xs := by
  unfold groupsT
  rw [List.length_map, rg_len]
theorem group_sizes_ok {xs : List Int} (h : isG xs = true) : m_group_sizes [eL xs] = M.pure (eL (sizesT xs)) := by
  have hl := isG_len h
  have hn := isG_nG h
  simp [m_group_sizes, f_group_sizes, check_grouping_ok h, groups_of_ok h]
  rw [v_map Enc.e (fun g => .int (g.length : Nat)) _ ?_]
  · have e : PyData.list ((groupsT xs).map fun g => PyData.int (g.length : Nat)) = eL ((groupsT xs).map fun g => (g.length : Int)) := by unfold eL; simp
    simp only [v_nerr_pure, v_bind_pure, e]
    rw [kSortI_l (by rw [List.length_map, groupsT_len]; omega)]
    simp [sizesT]
  · intro g hg
    exact ⟨_, rfl, by simp⟩
theorem by_labels_ok {xs : List Int} (h0 : 1 ≤ xs.length) (h1 : xs.length ≤ 7) (h2 : ∀ x ∈ xs, 0 ≤ x ∧ x ≤ 99) : m_by_labels [eL xs] = M.pure (eL (number xs)) := by
  have hl : ¬((xs.length : Int) < 1 ∨ 7 < (xs.length : Int)) := by omega
  have e : compF [.d (eL xs), .un] (.nm 1) xYes (xCall m_is_int (xCons (xVar 1) (xCons (xC (.int 0)) (xCons (xC (.int 99)) xNil)))) (xs.map Enc.e) [] = M.pure (eL (xs.map fun x => decide (0 ≤ x ∧ x ≤ 99))) := by
    rw [v_map Enc.e (fun x => .bool (decide (0 ≤ x ∧ x ≤ 99))) _ ?_]
    · unfold eL
      rw [List.map_map]
      rfl
    · intro x hx
      exact ⟨_, rfl, by simp [is_int_ok]⟩
  have e2 : (xs.map fun x => decide (0 ≤ x ∧ x ≤ 99)).all id = true := by
    rw [List.all_map, List.all_eq_true]
    intro x hx
    exact decide_eq_true (h2 x hx)
  simp only [m_by_labels, f_by_labels, v_runF, List.map_cons, List.map_nil, List.length_cons, List.length_nil]
  simp [hl, e, e2, numbered_ok (show xs.length < 100000 by omega)]
  intro x hx hq
  have := h2 x hx
  omega
theorem grouping_of_loop (l : DL.Slot) : ∀ (parts : List (List Int)) (acc : List Int) (j a b : DL.Slot), acc.length + parts.flatten.length ≤ 100000 →
    ∃ j', forF (.nm 2) b_grouping_of_1 (parts.map Enc.e) [l, .d (eL acc), j, a, b] = S.nx [l, .d (eL (acc ++ parts.flatten)), j', a, b]
  | [], acc, j, a, b, _ => ⟨j, by rw [List.flatten_nil, List.append_nil]; rfl⟩
  | p :: r, acc, j, a, b, h => by
    rw [List.flatten_cons, List.length_append] at h
    have hb : b_grouping_of_1 [l, .d (eL acc), .d (Enc.e p), a, b] = S.nx [l, .d (eL (acc ++ p)), .d (Enc.e p), a, b] := by
      simp [b_grouping_of_1, v_add (xs := acc) (ys := p) (by omega)]
    obtain ⟨j', e⟩ := grouping_of_loop l r (acc ++ p) (.d (Enc.e p)) a b (by rw [List.length_append]; omega)
    refine ⟨j', ?_⟩
    rw [List.map_cons, for_cons rfl hb, e, List.flatten_cons, List.append_assoc]
theorem enumD_map {α : Type} [DecidableEq α] [Enc α] : ∀ (xs : List α) (n : Nat), enumD n (xs.map Enc.e) = (enumT n xs).map Enc.e
  | [], _ => rfl
  | x :: r, n => by
    rw [List.map_cons]
    unfold enumD enumT
    rw [enumD_map r, List.map_cons]
    rfl
theorem kEnum_l {α : Type} [DecidableEq α] [Enc α] (xs : List α) : kEnum [eL xs] = M.pure ((enumT 0 xs).map Enc.e) := by
  show M.pure (enumD 0 (xs.map Enc.e)) = _
  rw [enumD_map]
theorem grouping_of_ok {parts : List (List Int)} (h : fitParts parts = true) : m_grouping_of [eL parts] = M.pure (eL (groupingT parts)) := by
  obtain ⟨h1, h2, h3, h4, h5⟩ := fitParts_of h
  have e1 : compF [.d (eL parts), .un, .un, .un, .un] (.nm 2) xYes (xAndV (x1 (kIsi "list") (xVar 2)) (x2 kNe (xVar 2) (xLst xNil))) (parts.map Enc.e) [] = M.pure (eL (parts.map fun p => !decide (p = []))) := by
    rw [v_map Enc.e (fun p => .bool (!decide (p = []))) _ ?_]
    · unfold eL
      rw [List.map_map]
      rfl
    · intro x hx
      exact ⟨_, rfl, by simp⟩
  have a1 : (parts.map fun p => !decide (p = [])).all id = true := by
    rw [List.all_map, List.all_eq_true]
    intro x hx
    simp [h1 x hx]
  obtain ⟨j, e2⟩ := grouping_of_loop (.d (eL parts)) parts [] .un .un .un (by rw [List.length_nil]; omega)
  rw [List.nil_append] at e2
  have e3 : ∀ j : DL.Slot, compF [.d (eL parts), .d (eL parts.flatten), j, .un, .un] (.nm 3) xYes (xCall m_is_int (xCons (xVar 3) (xCons (xC (.int 0)) (xCons (xC (.int 6)) xNil)))) (parts.flatten.map Enc.e) [] = M.pure (eL (parts.flatten.map fun i => decide (0 ≤ i ∧ i ≤ 6))) := by
    intro j
    rw [v_map Enc.e (fun i => .bool (decide (0 ≤ i ∧ i ≤ 6))) _ ?_]
    · unfold eL
      rw [List.map_map]
      rfl
    · intro x hx
      exact ⟨_, rfl, by simp [is_int_ok]⟩
  have a3 : (parts.flatten.map fun i => decide (0 ≤ i ∧ i ≤ 6)).all id = true := by
    rw [List.all_map, List.all_eq_true]
    intro x hx
    exact decide_eq_true (h4 x hx)
  have hl : ¬((parts.flatten.length : Int) < 1 ∨ 7 < (parts.flatten.length : Int)) := by omega
  have k1 : kSortI [eL parts.flatten] = M.pure (eL (rg parts.flatten.length)) := by rw [kSortI_l (by omega), h5]
  have k2 : kLstRg (.int (parts.flatten.length : Nat)) = M.pure (eL (rg parts.flatten.length)) := kLstRg_n (by omega)
  have k3 : kRg (.int (parts.flatten.length : Nat)) = M.pure ((rg parts.flatten.length).map Enc.e) := kRg_n (by omega)
  simp only [m_grouping_of, f_grouping_of, v_runF, List.map_cons, List.map_nil, List.length_cons, List.length_nil]
  have e2' : forF (.nm 2) b_grouping_of_1 (parts.map Enc.e) [.d (eL parts), .d (.list []), .un, .un, .un] = S.nx [.d (eL parts), .d (eL parts.flatten), j, .un, .un] := e2
  have hne : ∀ i ∈ rg parts.flatten.length, 0 < (partsOf parts i).length := fun i hi => partsOf_ne h hi
  rw [show groupingT parts = number ((rg parts.flatten.length).map (partOf parts)) from rfl]
  clear e2 h5
  generalize parts.flatten = ts at *
  simp [e1, a1, e2', hl, e3, a3, k1, k2, k3]
  rw [v_map Enc.e (fun i => .int (partOf parts i)) _ ?_]
  · have e : PyData.list ((rg ts.length).map fun i => PyData.int (partOf parts i)) = eL ((rg ts.length).map (partOf parts)) := by
      unfold eL
      rw [List.map_map]
      rfl
    simp only [v_nerr_pure, v_bind_pure, e]
    rw [numbered_ok (by rw [List.length_map, rg_len]; omega)]
    simp
    intro x hx hq
    have := h4 x hx
    omega
  · intro i hi
    refine ⟨_, rfl, ?_⟩
    simp [kEnum_l]
    rw [v_filter Enc.e (fun (p : Int × List Int) => decide (i ∈ p.2)) (fun p => .int p.1) _ ?_]
    · have e : PyData.list (((enumT 0 parts).filter fun p => decide (i ∈ p.2)).map fun p => PyData.int p.1) = eL (partsOf parts i) := by
        unfold eL partsOf
        rw [List.map_map]
        rfl
      have := hne i hi
      simp only [v_nerr_pure, v_bind_pure, e]
      rw [v_ixI (by omega) (by omega)]
      rfl
    · intro p hp
      refine ⟨_, rfl, ?_, fun _ => rfl⟩
      simp [setAll]
end Pg

/-! The rows listed, settled by the kernel. -/
namespace Pg
open PySem PySem.Spec PyProof.Rows L2 DL
theorem rows_of_chk : ∀ n ∈ List.range 7, eqOk (m_rows_of [.int ((n : Int) + 1)] []) (eL (rgs (n + 1))) = true := by decide +kernel
theorem law_all_chk : ∀ n ∈ List.range 7, eqOk (m__law_all [.int ((n : Int) + 1)] []) (eL (rgs (n + 1))) = true := by decide +kernel
theorem rows_of_ok {n : Nat} (h0 : 1 ≤ n) (h1 : n ≤ 7) : m_rows_of [.int (n : Nat)] = M.pure (eL (rgs n)) := by
  funext w
  have := rows_of_chk (n - 1) (List.mem_range.mpr (by omega))
  have e : ((n - 1 : Nat) : Int) + 1 = (n : Nat) := by omega
  rw [e, show n - 1 + 1 = n by omega] at this
  exact pu_eq (pu_m_rows_of _) this w
theorem law_all_ok {n : Nat} (h0 : 1 ≤ n) (h1 : n ≤ 7) : m__law_all [.int (n : Nat)] = M.pure (eL (rgs n)) := by
  funext w
  have := law_all_chk (n - 1) (List.mem_range.mpr (by omega))
  have e : ((n - 1 : Nat) : Int) + 1 = (n : Nat) := by omega
  rw [e, show n - 1 + 1 = n by omega] at this
  exact pu_eq (pu_m__law_all _) this w
end Pg

/-! What the listings compute. -/
namespace Pg
open PySem PySem.Spec PyProof.Rows L2 DL
theorem check_size_ok {n : Nat} (h0 : 1 ≤ n) (h1 : n ≤ 7) : m_check_size [.int (n : Nat)] = M.pure .none := by
  have : (1 : Int) ≤ n ∧ (n : Int) ≤ 7 := by omega
  simp [m_check_size, f_check_size, is_int_ok, this]
theorem all_groupings_ok {n : Nat} (h0 : 1 ≤ n) (h1 : n ≤ 7) : m_all_groupings [.int (n : Nat)] = M.pure (eL (rgs n)) := by
  simp [m_all_groupings, f_all_groupings, check_size_ok h0 h1, rows_of_ok h0 h1]
theorem rank_of_ok {row : List Int} (h : isG row = true) : m_rank_of [eL row] = M.pure (.int (idx row (rgs row.length) : Nat)) := by
  have hl := isG_len h
  have hk := kIndex_l row (rgs row.length) (isG_rgs_mem h)
  rw [v_eL] at hk
  simp [m_rank_of, f_rank_of, check_grouping_ok h, rows_of_ok hl.1 hl.2, hk]
theorem grouping_at_ok {n : Nat} (h0 : 1 ≤ n) (h1 : n ≤ 7) {i : Nat} {row : List Int} (hi : (rgs n)[i]? = some row) : m_grouping_at [.int (n : Nat), .int (i : Nat)] = M.pure (eL row) := by
  have hl : i < (rgs n).length := (List.getElem?_eq_some_iff.mp hi).1
  have hk := kIx_l hi
  have hb : (i : Int) ≤ (rgs n).length - 1 := by omega
  simp [m_grouping_at, f_grouping_at, check_size_ok h0 h1, rows_of_ok h0 h1, is_int_ok, hb, hk]
/-- 1, 2, .. -/
def rg1 (i n : Nat) : List Int := (List.range' i n).map fun (k : Nat) => (k : Int)
theorem kRg2_1 {n : Nat} (h : n ≤ 100000) : kRg2 [.int 1, .int ((n : Nat) + 1)] = M.pure ((rg1 1 n).map Enc.e) := by
  have : cRg2 1 ((n : Nat) + 1) = true := by
    unfold cRg2
    simp only [Bool.and_eq_true, decide_eq_true_eq]
    omega
  have e : ((n : Int) + 1 - 1).toNat = n := by omega
  have k : rgD2 1 ((n : Nat) + 1) = (rg1 1 n).map Enc.e := by
    unfold rgD2 dInts rg1
    rw [e, List.range'_eq_map_range, List.map_map, List.map_map, List.map_map]
    refine List.map_congr_left fun k _ => ?_
    show PyData.int (1 + (k : Int)) = PyData.int ((1 + k : Nat) : Int)
    rw [Int.natCast_add]
    rfl
  show chk (cRg2 1 ((n : Nat) + 1)) (M.pure (rgD2 1 ((n : Nat) + 1))) = _
  rw [this, k]
  rfl
theorem rg1_succ (i n : Nat) : rg1 i (n + 1) = (i : Int) :: rg1 (i + 1) n := by
  unfold rg1
  rw [List.range'_succ]
  rfl
theorem at0_ix {xs : List Int} {k : Int} (h0 : 0 ≤ k) (h1 : k < xs.length) : kIx (eL xs) (.int k) = M.pure (.int (at0 xs k)) := v_ixI h0 h1
theorem cwg_inner (a b : D) (t : Nat) (ways : List Int) (hw : ways.length = t) (ht : t ≤ 50) : ∀ (m i : Nat) (acc : List Int) (j : DL.Slot), 1 ≤ i → i + m = t + 1 → acc.length ≤ i →
    ∃ j', forF (.nm 5) b_count_with_groups_1 ((rg1 i m).map Enc.e) [.d a, .d b, .d (eL ways), .d (.int (t : Nat)), .own (acc.map Enc.e), j] =
      S.nx [.d a, .d b, .d (eL ways), .d (.int (t : Nat)), .own ((acc ++ (List.range' i m).map fun (k : Nat) => at0 ways ((k : Int) - 1) + if k < t then (k : Int) * at0 ways k else 0).map Enc.e), j']
  | 0, i, acc, j, _, _, _ => ⟨j, by simp [rg1, for_nil]⟩
  | m + 1, i, acc, j, h1, hi, ha => by
    have k1 := at0_ix (xs := ways) (k := (i : Int) - 1) (by omega) (by omega)
    have hb : b_count_with_groups_1 [.d a, .d b, .d (eL ways), .d (.int (t : Nat)), .own (acc.map Enc.e), .d (.int (i : Nat))] =
        S.nx [.d a, .d b, .d (eL ways), .d (.int (t : Nat)), .own ((acc ++ [at0 ways ((i : Int) - 1) + if i < t then (i : Int) * at0 ways i else 0]).map Enc.e), .d (.int (i : Nat))] := by
      unfold b_count_with_groups_1
      rw [v_app rfl (by rw [List.length_map]; omega)]
      by_cases h : i < t
      · have k2 := at0_ix (xs := ways) (k := (i : Int)) (by omega) (by omega)
        have k3 : kMul (.int (i : Nat)) (.int (at0 ways i)) = M.pure (.int ((i : Int) * at0 ways i)) := v_mulL (by omega)
        clear hi ha
        generalize kMul = K at k3 ⊢
        simp [k1, k2, k3, h]
      · generalize kMul = K
        simp [k1, h]
    obtain ⟨j', e⟩ := cwg_inner a b t ways hw ht m (i + 1) (acc ++ [at0 ways ((i : Int) - 1) + if i < t then (i : Int) * at0 ways i else 0]) (.d (.int (i : Nat))) (by omega) (by omega) (by rw [List.length_append, List.length_singleton]; omega)
    refine ⟨j', ?_⟩
    rw [rg1_succ, List.map_cons, for_cons rfl hb, e, List.range'_succ, List.map_cons, List.append_assoc]
    rfl
theorem cwg_outer (a b : D) : ∀ (m i : Nat) (j3 j4 j5 : DL.Slot), i + m ≤ 40 →
    ∃ j3' j4' j5', forF (.nm 3) b_count_with_groups_2 ((rg1 (i + 1) m).map Enc.e) [.d a, .d b, .d (eL (waysT i)), j3, j4, j5] = S.nx [.d a, .d b, .d (eL (waysT (i + m))), j3', j4', j5']
  | 0, i, j3, j4, j5, _ => ⟨j3, j4, j5, by simp [rg1, for_nil]⟩
  | m + 1, i, j3, j4, j5, h => by
    obtain ⟨j', e⟩ := cwg_inner a b (i + 1) (waysT i) (waysT_len i) (by omega) (i + 1) 1 [0] j5 (by omega) (by omega) (by simp)
    have hr : kRg2 [.int 1, .int (((i + 1 : Nat) : Int) + 1)] = M.pure ((rg1 1 (i + 1)).map Enc.e) := kRg2_1 (by omega)
    have e' : forF (.nm 5) b_count_with_groups_1 ((rg1 1 (i + 1)).map Enc.e) [.d a, .d b, .d (eL (waysT i)), .d (.int ((i + 1 : Nat) : Int)), .own [.int 0], j5] = S.nx [.d a, .d b, .d (eL (waysT i)), .d (.int ((i + 1 : Nat) : Int)), .own ((waysT (i + 1)).map Enc.e), j'] := e
    have hb : ∃ x4, b_count_with_groups_2 [.d a, .d b, .d (eL (waysT i)), .d (.int ((i + 1 : Nat) : Int)), j4, j5] = S.nx [.d a, .d b, .d (eL (waysT (i + 1))), .d (.int ((i + 1 : Nat) : Int)), x4, j'] := by
      refine ⟨.d (eL (waysT (i + 1))), ?_⟩
      unfold b_count_with_groups_2
      simp only [v_sSeq, v_sOwn, v_xLst, v_xCons, v_C, v_bind_pure, v_xNil, v_bindS_pure, v_ownS, List.set_cons_succ, List.set_cons_zero, v_seq_nx, v_sFor, v_varS, v_var0, v_x2, v_kAdd, hr, e']
      rw [v_frz rfl]
      simp
    obtain ⟨x4, hb⟩ := hb
    obtain ⟨j3', j4', j5', e2⟩ := cwg_outer a b m (i + 1) (.d (.int ((i + 1 : Nat) : Int))) x4 j' (by omega)
    refine ⟨j3', j4', j5', ?_⟩
    rw [rg1_succ, List.map_cons, for_cons rfl hb, e2]
    rw [show i + (m + 1) = i + 1 + m by omega]
theorem count_with_groups_ok {n m : Int} (h0 : 1 ≤ n) (h1 : n ≤ 20) (m0 : 0 ≤ m) (m1 : m ≤ 20) : m_count_with_groups [.int n, .int m] = M.pure (.int (cwg n m)) := by
  obtain ⟨j3, j4, j5, e⟩ := cwg_outer (.int n) (.int m) n.toNat 0 .un .un .un (by omega)
  have hr : kRg2 [.int 1, .int (n + 1)] = M.pure ((rg1 1 n.toNat).map Enc.e) := by
    have := kRg2_1 (n := n.toNat) (by omega)
    rwa [Int.toNat_of_nonneg (by omega)] at this
  have e' : forF (.nm 3) b_count_with_groups_2 ((rg1 1 n.toNat).map Enc.e) [.d (.int n), .d (.int m), .d (.list [.int 1]), .un, .un, .un] = S.nx [.d (.int n), .d (.int m), .d (eL (waysT n.toNat)), j3, j4, j5] := by
    have z : 0 + n.toNat = n.toNat := by omega
    rw [z] at e
    exact e
  simp [m_count_with_groups, f_count_with_groups, is_int_ok, h0, h1, m0, m1, hr, e']
  by_cases h : m ≤ n
  · have hk := at0_ix (xs := waysT n.toNat) (k := m) m0 (by rw [waysT_len]; omega)
    simp [h, hk, cwg]
  · simp [h, cwg]
theorem count_all_ok {n : Int} (h0 : 1 ≤ n) (h1 : n ≤ 20) : m_count_all [.int n] = M.pure (.int (((rg1 1 n.toNat).map (cwg n)).sum)) := by
  have hr : kRg2 [.int 1, .int (n + 1)] = M.pure ((rg1 1 n.toNat).map Enc.e) := by
    have := kRg2_1 (n := n.toNat) (by omega)
    rwa [Int.toNat_of_nonneg (by omega)] at this
  simp [m_count_all, f_count_all, is_int_ok, h0, h1, hr]
  rw [v_map Enc.e (fun k => .int (cwg n k)) _ ?_]
  · have e : PyData.list ((rg1 1 n.toNat).map fun k => PyData.int (cwg n k)) = eL ((rg1 1 n.toNat).map (cwg n)) := by
      unfold eL
      rw [List.map_map]
      rfl
    simp [e]
  · intro k hk
    unfold rg1 at hk
    rw [List.mem_map] at hk
    obtain ⟨j, hj, rfl⟩ := hk
    rw [List.mem_range'_1] at hj
    exact ⟨_, rfl, by simp [count_with_groups_ok h0 h1 (show (0 : Int) ≤ j by omega) (show (j : Int) ≤ 20 by omega)]⟩
/-- the sizes of the groups, in their order -/
def cntT (row : List Int) : List Int := (rg (nG row)).map fun g => (row.count g : Int)
theorem with_sizes_ok {n : Nat} {c : List Int} (h0 : 1 ≤ n) (h1 : n ≤ 7) (hc : ∀ x ∈ c, 1 ≤ x ∧ x ≤ 7) (hs : c.sum = n) (hl : c.length < 64) :
    m_with_sizes [.int (n : Nat), eT c] = M.pure (eL ((rgs n).filter fun row => decide (sortI (cntT row) = sortI c))) := by
  have e : compF [.d (.int (n : Nat)), .d (eT c), .un, .un, .un, .un] (.nm 4) xYes (xCall m_is_int (xCons (xVar 4) (xCons (xC (.int 1)) (xCons (xC (.int 7)) xNil)))) (c.map Enc.e) [] = M.pure (eL (c.map fun x => decide (1 ≤ x ∧ x ≤ 7))) := by
    rw [v_map Enc.e (fun x => .bool (decide (1 ≤ x ∧ x ≤ 7))) _ ?_]
    · unfold eL
      rw [List.map_map]
      rfl
    · intro x hx
      exact ⟨_, rfl, by simp [is_int_ok]⟩
  have a : (c.map fun x => decide (1 ≤ x ∧ x ≤ 7)).all id = true := by
    rw [List.all_map, List.all_eq_true]
    intro x hx
    exact decide_eq_true (hc x hx)
  have hb : ∀ row ∈ rgs n, ∀ (acc : List (List Int)) (j5 : DL.Slot), acc.length ≤ 90000 → b_with_sizes_1 [.d (.int (n : Nat)), .d (eT c), .own (acc.map Enc.e), .d (eL row), .un, .un] =
      S.nx [.d (.int (n : Nat)), .d (eT c), .own ((acc ++ if decide (sortI (cntT row) = sortI c) then [row] else []).map Enc.e), .d (eL row), .un, .un] := by
    intro row hr acc j5 ha
    obtain ⟨g, hl7⟩ := rgs_isG h0 h1 hr
    have hk : compF [.d (.int (n : Nat)), .d (eT c), .own (acc.map Enc.e), .d (eL row), .un, .un] (.nm 5) xYes (xMeth "list" kCount (xVar 3) (xCons (xVar 5) xNil)) ((rg (nG row)).map Enc.e) [] = M.pure (eL (cntT row)) := by
      rw [v_map Enc.e (fun g => .int (row.count g : Nat)) _ ?_]
      · unfold eL cntT
        rw [List.map_map]
        rfl
      · intro x hx
        exact ⟨_, rfl, by simp [kCount_l]⟩
    have hn := isG_nG g
    have k1 : kSortI [eL (cntT row)] = M.pure (eL (sortI (cntT row))) := kSortI_l (by unfold cntT; rw [List.length_map, rg_len]; omega)
    have k2 : kSortI [eT c] = M.pure (eL (sortI c)) := kSortI_t hl
    simp [b_with_sizes_1, kMax_G g, kRgMax_G g, hk, k1, k2]
    by_cases q : sortI (cntT row) = sortI c
    · simp only [q, if_true]
      rw [v_app rfl (by rw [List.length_map]; omega)]
      simp
    · simp [q]
  obtain ⟨ρ', e2, j3, rfl⟩ := v_forApp (t := .nm 3) (body := b_with_sizes_1) (fun (acc : List (List Int)) ρ => ∃ j3, ρ = [.d (.int (n : Nat)), .d (eT c), .own (acc.map Enc.e), j3, .un, .un]) Enc.e
    (fun row => if decide (sortI (cntT row) = sortI c) then [row] else []) (rgs n) [] [.d (.int (n : Nat)), .d (eT c), .own [], .un, .un, .un] ⟨_, rfl⟩ (by
      rw [List.nil_append, flatMap_filter]
      have h2 := rgs_len7 n h0 h1
      have h3 := List.length_filter_le (fun row => decide (sortI (cntT row) = sortI c)) (rgs n)
      omega) (by
      rintro row hr acc ρ ⟨j3, rfl⟩ hl
      exact ⟨_, _, rfl, .inl (hb row hr acc .un (by rw [List.length_append] at hl; omega)), _, rfl⟩)
  rw [List.nil_append, flatMap_filter] at e2
  simp [m_with_sizes, f_with_sizes, check_size_ok h0 h1, e, a, hs, rows_of_ok h0 h1, e2]
  rw [if_neg (by rintro ⟨x, hx, hq⟩; have := hc x hx; omega), v_frz rfl]
  simp
end Pg

/-! What the pairs compute. -/
namespace Pg
open PySem PySem.Spec PyProof.Rows L2 DL
def parS (ρ : List DL.Slot) (i j : Nat) : List D → W' → SR
  | [a, b] => S.nx ((ρ.set i (.d a)).set j (.d b))
  | _ => S.bad
@[simp] theorem v_parS (ρ : List DL.Slot) (i j : Nat) (a b : D) : parS ρ i j [a, b] = S.nx ((ρ.set i (.d a)).set j (.d b)) := nr rfl
@[simp] theorem v_sPar {i j : Nat} {fs : X (List D)} {ρ : List DL.Slot} : sPar i j fs ρ = bindS (fs ρ) ρ (parS ρ i j) := by
  funext w
  show Res.to _ _ _ = Res.to _ _ _
  congr 1
  funext ds w
  rcases ds with _ | ⟨a, _ | ⟨b, _ | ⟨c, r⟩⟩⟩ <;> rfl
theorem v_augAt {ρ : List DL.Slot} {i j : Nat} {xs : List D} {k : Int → Int → Int} {fj fe : X D} {a b : Int} (e : ρ[i]? = some (.own xs)) (hj : fj ρ = M.pure (.int (j : Nat))) (hx : xs[j]? = some (.int a)) (he : fe ρ = M.pure (.int b)) :
    sAugAt i k fj fe ρ = S.nx (ρ.set i (.own (xs.set j (.int (k a b))))) := by
  have hl : j < xs.length := (List.getElem?_eq_some_iff.mp hx).1
  have h1 : atI xs (j : Int) = some (.int a) := atI_nat hx
  have h2 : ixN xs.length (j : Int) = some j := by
    unfold ixN
    rw [if_pos (by omega), if_pos (by omega)]
    rfl
  funext w
  unfold sAugAt
  rw [e, hj]
  show (match atI xs (j : Int) with | some (.int a) => _ | _ => SR.bad) = _
  rw [h1, he]
  show (match ixN xs.length (j : Int) with | some n => _ | none => SR.bad) = _
  rw [h2]
  rfl
theorem all_pairs_chk : ∀ n ∈ List.range 7, eqOk (m_all_pairs [.int ((n : Int) + 1)] []) (eL (pairsT (n + 1))) = true := by decide +kernel
theorem law_pairs_chk : ∀ n ∈ List.range 7, eqOk (m__law_pairs [.int ((n : Int) + 1)] []) (eL (pairsT (n + 1))) = true := by decide +kernel
theorem all_pairs_ok {n : Nat} (h0 : 1 ≤ n) (h1 : n ≤ 7) : m_all_pairs [.int (n : Nat)] = M.pure (eL (pairsT n)) := by
  funext w
  have := all_pairs_chk (n - 1) (List.mem_range.mpr (by omega))
  have e : ((n - 1 : Nat) : Int) + 1 = (n : Nat) := by omega
  rw [e, show n - 1 + 1 = n by omega] at this
  exact pu_eq (pu_m_all_pairs _) this w
theorem law_pairs_ok {n : Nat} (h0 : 1 ≤ n) (h1 : n ≤ 7) : m__law_pairs [.int (n : Nat)] = M.pure (eL (pairsT n)) := by
  funext w
  have := law_pairs_chk (n - 1) (List.mem_range.mpr (by omega))
  have e : ((n - 1 : Nat) : Int) + 1 = (n : Nat) := by omega
  rw [e, show n - 1 + 1 = n by omega] at this
  exact pu_eq (pu_m__law_pairs _) this w
/-- the two items that a pair names -/
theorem kIx_pair {xs : List Int} {n : Nat} (hl : xs.length = n) {p : Int × Int} (h : p ∈ pairsT n) : kIx (eL xs) (.int p.1) = M.pure (.int (at0 xs p.1)) ∧ kIx (eL xs) (.int p.2) = M.pure (.int (at0 xs p.2)) := by
  have := pairsT_mem.mp h
  exact ⟨v_ixI (by omega) (by omega), v_ixI (by omega) (by omega)⟩
theorem check_both_ok {a b : List Int} (ha : isG a = true) (hb : isG b = true) (h : b.length = a.length) : m_check_both [eL a, eL b] = M.pure .none := by
  simp [m_check_both, f_check_both, check_grouping_ok ha, check_grouping_ok hb, h]
theorem set_pair (ρ : List DL.Slot) (i j : Nat) (p : Int × Int) : (Tgt.tp [i, j]).set (Enc.e p) ρ = some ((ρ.set i (.d (.int p.1))).set j (.d (.int p.2))) := rfl
theorem law_apart_ok {a b : List Int} (ha : isG a = true) (h : b.length = a.length) : m__law_apart [eL a, eL b] = M.pure (eL (apartT a b)) := by
  obtain ⟨h0, h1⟩ := isG_len ha
  simp [m__law_apart, f__law_apart, law_pairs_ok h0 h1]
  rw [v_filter Enc.e (fun p => !decide (sm a p = sm b p)) Enc.e _ ?_]
  · rfl
  · intro p hp
    obtain ⟨j1, j2⟩ := kIx_pair rfl hp
    obtain ⟨j3, j4⟩ := kIx_pair h hp
    refine ⟨_, set_pair _ _ _ p, ?_, fun _ => ?_⟩
    · simp [j1, j2, j3, j4, sm]
    · simp
theorem outcomes_ok {a b : List Int} (ha : isG a = true) (h : b.length = a.length) : m_outcomes [eL a, eL b] = M.pure (eL (outT a b)) := by
  obtain ⟨h0, h1⟩ := isG_len ha
  obtain ⟨ρ', e, j3, j4, j5, j6, rfl⟩ := v_for (t := .tp [3, 4]) (body := b_outcomes_1) (fun (s : Int × Int × Int × Int) ρ => ∃ j3 j4 j5 j6, ρ = [.d (eL a), .d (eL b), .own [.int s.1, .int s.2.1, .int s.2.2.1, .int s.2.2.2], j3, j4, j5, j6]) Enc.e (stepO a b) (pairsT a.length) (0, 0, 0, 0)
    [.d (eL a), .d (eL b), .own [.int 0, .int 0, .int 0, .int 0], .un, .un, .un, .un] ⟨_, _, _, _, rfl⟩ (by
      rintro p hp s ρ ⟨j3, j4, j5, j6, rfl⟩
      obtain ⟨k1, k2⟩ := kIx_pair rfl hp
      obtain ⟨k3, k4⟩ := kIx_pair h hp
      have hb : b_outcomes_1 [.d (eL a), .d (eL b), .own [.int s.1, .int s.2.1, .int s.2.2.1, .int s.2.2.2], .d (.int p.1), .d (.int p.2), j5, j6] = S.nx [.d (eL a), .d (eL b), .own [.int (stepO a b s p).1, .int (stepO a b s p).2.1, .int (stepO a b s p).2.2.1, .int (stepO a b s p).2.2.2], .d (.int p.1), .d (.int p.2), .d (.bool (sm a p)), .d (.bool (sm b p))] := by
        simp only [b_outcomes_1, v_sSeq, v_sPar, v_xCons, v_x2, v_varS, v_var0, v_bind_pure, k1, k2, k3, k4, v_kEqI, v_xNil, v_bindS_pure, v_parS, v_seq_nx, List.set_cons_succ, List.set_cons_zero]
        have e1 : decide (at0 a p.1 = at0 a p.2) = sm a p := rfl
        have e2 : decide (at0 b p.1 = at0 b p.2) = sm b p := rfl
        rw [e1, e2]
        unfold stepO
        cases q1 : sm a p <;> cases q2 : sm b p
        · rw [v_augAt (j := 3) (a := s.2.2.2) (b := 1) rfl rfl rfl rfl]; rfl
        · rw [v_augAt (j := 2) (a := s.2.2.1) (b := 1) rfl rfl rfl rfl]; rfl
        · rw [v_augAt (j := 1) (a := s.2.1) (b := 1) rfl rfl rfl rfl]; rfl
        · rw [v_augAt (j := 0) (a := s.1) (b := 1) rfl rfl rfl rfl]; rfl
      exact ⟨_, _, set_pair _ _ _ p, .inl hb, _, _, _, _, rfl⟩)
  have ho : (pairsT a.length).foldl (stepO a b) (0, 0, 0, 0) = (cT (fun p => sm a p && sm b p) a.length, cT (fun p => sm a p && !sm b p) a.length, cT (fun p => !sm a p && sm b p) a.length, cT (fun p => !sm a p && !sm b p) a.length) := by
    rw [foldO]
    simp [cT]
  rw [ho] at e
  simp [m_outcomes, f_outcomes, all_pairs_ok h0 h1, e]
  rw [v_frz rfl]
  simp
  rfl
theorem distance_ok {a b : List Int} (ha : isG a = true) (h : b.length = a.length) : m_distance [eL a, eL b] = M.pure (.int (dT a b : Nat)) := by
  have k1 : kIx (eL (outT a b)) (.int 1) = M.pure (.int (cT (fun p => sm a p && !sm b p) a.length)) := v_ixI (by omega) (by simp [outT])
  have k2 : kIx (eL (outT a b)) (.int 2) = M.pure (.int (cT (fun p => !sm a p && sm b p) a.length)) := v_ixI (by omega) (by simp [outT])
  simp [m_distance, f_distance, outcomes_ok ha h, k1, k2, dT_eq]
theorem pair_distance_ok {a b : List Int} (ha : isG a = true) (hb : isG b = true) (h : b.length = a.length) : m_pair_distance [eL a, eL b] = M.pure (.int (dT a b : Nat)) := by
  simp [m_pair_distance, f_pair_distance, check_both_ok ha hb h, distance_ok ha h]
end Pg

/-! What lies between, what is near. -/
namespace Pg
open PySem PySem.Spec PyProof.Rows L2 DL
theorem lies_between_ok {a m b : List Int} (ha : isG a = true) (hm : m.length = a.length) (hb : b.length = a.length) : m_lies_between [eL a, eL m, eL b] = M.pure (.bool (betT a m b)) := by
  obtain ⟨h0, h1⟩ := isG_len ha
  obtain ⟨ρ', e, r⟩ := v_forAll (t := .tp [3, 4]) (body := b_lies_between_1) (ρ := [.d (eL a), .d (eL m), .d (eL b), .un, .un, .un, .un]) (fun ρ => ∃ j3 j4 j5 j6, ρ = [.d (eL a), .d (eL m), .d (eL b), j3, j4, j5, j6]) Enc.e
    (fun p => !(decide (sm a p = sm b p) && !decide (sm m p = sm a p))) (.bool false) (pairsT a.length) ⟨_, _, _, _, rfl⟩ (by
      rintro p hp ρ ⟨j3, j4, j5, j6, rfl⟩
      obtain ⟨k1, k2⟩ := kIx_pair rfl hp
      obtain ⟨k3, k4⟩ := kIx_pair hb hp
      obtain ⟨k5, k6⟩ := kIx_pair hm hp
      have e1 : decide (at0 a p.1 = at0 a p.2) = sm a p := rfl
      have e2 : decide (at0 b p.1 = at0 b p.2) = sm b p := rfl
      have e3 : decide (at0 m p.1 = at0 m p.2) = sm m p := rfl
      refine ⟨_, [.d (eL a), .d (eL m), .d (eL b), .d (.int p.1), .d (.int p.2), .d (.bool (sm a p)), .d (.bool (sm b p))], set_pair _ _ _ p, ?_, _, _, _, _, rfl⟩
      simp only [b_lies_between_1, v_sSeq, v_sPar, v_xCons, v_x2, v_varS, v_var0, v_bind_pure, k1, k2, k3, k4, v_kEqI, v_xNil, v_bindS_pure, v_parS, v_seq_nx, List.set_cons_succ, List.set_cons_zero, e1, e2]
      cases q1 : sm a p <;> cases q2 : sm b p <;> cases q3 : sm m p <;> simp [k5, k6, e3, q3])
  obtain ⟨j3, j4, j5, j6, rfl⟩ := r
  simp [m_lies_between, f_lies_between, all_pairs_ok h0 h1]
  rw [e]
  unfold betT
  generalize (pairsT a.length).all _ = z
  cases z <;> simp
theorem is_between_ok {a m b : List Int} (ha : isG a = true) (gm : isG m = true) (gb : isG b = true) (hm : m.length = a.length) (hb : b.length = a.length) : m_is_between [eL a, eL m, eL b] = M.pure (.bool (betT a m b)) := by
  simp [m_is_between, f_is_between, check_both_ok ha gm hm, check_both_ok ha gb hb, lies_between_ok ha hm hb]
theorem between_ok {a b : List Int} (ha : isG a = true) (gb : isG b = true) (hb : b.length = a.length) : m_between [eL a, eL b] = M.pure (eL ((rgs a.length).filter fun m => betT a m b)) := by
  obtain ⟨h0, h1⟩ := isG_len ha
  simp [m_between, f_between, check_both_ok ha gb hb, rows_of_ok h0 h1]
  rw [v_filter Enc.e (fun m => betT a m b) Enc.e _ ?_]
  · simp only [v_nerr_pure, v_bindS_pure, v_run_ret]
    rfl
  · intro m hm
    obtain ⟨gm, lm⟩ := rgs_isG h0 h1 hm
    exact ⟨_, rfl, by simp [lies_between_ok ha lm hb], fun _ => rfl⟩
theorem near_ok {a : List Int} (ha : isG a = true) {k : Int} (k0 : 0 ≤ k) (k1 : k ≤ 21) : m_near [eL a, .int k] = M.pure (eL ((rgs a.length).filter fun m => decide ((dT a m : Int) ≤ k))) := by
  obtain ⟨h0, h1⟩ := isG_len ha
  simp [m_near, f_near, check_grouping_ok ha, is_int_ok, k0, k1, rows_of_ok h0 h1]
  rw [v_filter Enc.e (fun m => decide ((dT a m : Int) ≤ k)) Enc.e _ ?_]
  · simp only [v_nerr_pure, v_bindS_pure, v_run_ret]
    rfl
  · intro m hm
    obtain ⟨gm, lm⟩ := rgs_isG h0 h1 hm
    exact ⟨_, rfl, by simp [distance_ok ha lm], fun _ => rfl⟩
/-- the rows with so many groups -/
def manyT (n : Nat) (k : Int) : List (List Int) := (rgs n).filter fun row => decide (maxI row + 1 = k)
theorem manyT_ne : ∀ n ∈ List.range 8, ∀ k ∈ List.range 8, 1 ≤ k → k ≤ n → 0 < (manyT n k).length := by decide +kernel
def leastT (a : List Int) (k : Int) : Int := minI ((manyT a.length k).map fun m => (dT a m : Int))
theorem nearest_with_ok {a : List Int} (ha : isG a = true) {k : Int} (k0 : 1 ≤ k) (k1 : k ≤ a.length) : m_nearest_with [eL a, .int k] = M.pure (eL ((manyT a.length k).filter fun m => decide ((dT a m : Int) = leastT a k))) := by
  obtain ⟨h0, h1⟩ := isG_len ha
  have hne : 0 < (manyT a.length k).length := by
    have := manyT_ne a.length (List.mem_range.mpr (by omega)) k.toNat (List.mem_range.mpr (by omega)) (by omega) (by omega)
    rwa [Int.toNat_of_nonneg (by omega)] at this
  have hm : ∀ m ∈ manyT a.length k, m.length = a.length := fun m hm => (rgs_isG h0 h1 (List.mem_filter.mp hm).1).2
  have e1 : compF [.d (eL a), .d (.int k), .un, .un, .un] (.nm 4) (xT (x2 kEq (x2 kAdd (xCall kMax (xCons (xVar 4) xNil)) (xC (.int 1))) (xVar 1))) (xVar 4) ((rgs a.length).map Enc.e) [] = M.pure (eL (manyT a.length k)) := by
    rw [v_filter Enc.e (fun row => decide (maxI row + 1 = k)) Enc.e _ ?_]
    · rfl
    · intro row hr
      exact ⟨_, rfl, by simp [kMax_G (rgs_isG h0 h1 hr).1], fun _ => rfl⟩
  have e2 : compF [.d (eL a), .d (.int k), .d (eL (manyT a.length k)), .un, .un] (.nm 4) xYes (xCall m_distance (xCons (xVar 0) (xCons (xVar 4) xNil))) ((manyT a.length k).map Enc.e) [] = M.pure (eL ((manyT a.length k).map fun m => (dT a m : Int))) := by
    rw [v_map Enc.e (fun m => .int (dT a m : Nat)) _ ?_]
    · unfold eL
      rw [List.map_map]
      rfl
    · intro m h
      exact ⟨_, rfl, by simp [distance_ok ha (hm m h)]⟩
  have e3 : kMin [eL ((manyT a.length k).map fun m => (dT a m : Int))] = M.pure (.int (leastT a k)) := kMin_l (by rw [List.length_map]; exact hne)
  simp [m_nearest_with, f_nearest_with, check_grouping_ok ha, is_int_ok, k0, k1, rows_of_ok h0 h1, e1, e2, e3]
  rw [v_filter Enc.e (fun m => decide ((dT a m : Int) = leastT a k)) Enc.e _ ?_]
  · simp only [v_nerr_pure, v_bindS_pure, v_run_ret]
    rfl
  · intro m h
    exact ⟨_, rfl, by simp [distance_ok ha (hm m h)], fun _ => rfl⟩
theorem zipD_map {α β : Type} [DecidableEq α] [DecidableEq β] [Enc α] [Enc β] : ∀ (xs : List α) (ys : List β), zipD (xs.map Enc.e) (ys.map Enc.e) = (xs.zip ys).map Enc.e
  | [], _ => rfl
  | _ :: _, [] => rfl
  | x :: xs, y :: ys => by
    show PyData.tuple [Enc.e x, Enc.e y] :: zipD (xs.map Enc.e) (ys.map Enc.e) = _
    rw [zipD_map xs ys]
    rfl
theorem kZip_l {α β : Type} [DecidableEq α] [DecidableEq β] [Enc α] [Enc β] (xs : List α) (ys : List β) : kZip [eL xs, eL ys] = M.pure ((xs.zip ys).map Enc.e) := by
  show M.pure (zipD (xs.map Enc.e) (ys.map Enc.e)) = _
  rw [zipD_map]
theorem zip_map_filter {α : Type} (f : α → Int) (m : Int) : ∀ xs : List α, ((xs.zip (xs.map f)).filter fun p => decide (p.2 = m)).map (·.1) = xs.filter fun x => decide (f x = m)
  | [] => rfl
  | x :: r => by
    rw [List.map_cons, List.zip_cons_cons, List.filter_cons, List.filter_cons]
    by_cases h : f x = m
    · rw [if_pos (decide_eq_true h), if_pos (decide_eq_true h), List.map_cons, zip_map_filter f m r]
    · rw [if_neg (by simp [h]), if_neg (by simp [h]), zip_map_filter f m r]
def middleT (n : Nat) (R : List (List Int)) : List (List Int) := (rgs n).filter fun row => decide (sumD R row = minI ((rgs n).map (sumD R)))
theorem middle_groupings_ok {n : Nat} (h0 : 1 ≤ n) (h1 : n ≤ 7) {R : List (List Int)} (hR : ∀ r ∈ R, isG r = true ∧ r.length = n) (r0 : 1 ≤ R.length) (r1 : R.length ≤ 5) : m_middle_groupings [eL R] = M.pure (eL (middleT n R)) := by
  cases R with
  | nil => simp at r0
  | cons o R' =>
    obtain ⟨go, lo⟩ := hR o List.mem_cons_self
    have ho : kIx (eL (o :: R')) (.int 0) = M.pure (eL o) := v_ix0 o R'
    generalize hq : o :: R' = R at *
    have hlen : ¬((R.length : Int) < 1 ∨ 5 < (R.length : Int)) := by omega
    obtain ⟨ρ', e, j, rfl⟩ := v_for (t := .nm 1) (body := b_middle_groupings_1) (σ := Unit) (fun _ ρ => ∃ j, ρ = [.d (eL R), j, .un, .un, .un, .un]) Enc.e (fun _ _ => ()) R () [.d (eL R), .un, .un, .un, .un, .un] ⟨_, rfl⟩ (by
      rintro r hr _ ρ ⟨j, rfl⟩
      obtain ⟨gr, lr⟩ := hR r hr
      refine ⟨_, [.d (eL R), .d (eL r), .un, .un, .un, .un], rfl, .inl ?_, _, rfl⟩
      simp [b_middle_groupings_1, ho, check_both_ok go gr (by rw [lr, lo])])
    have hsum : ∀ row ∈ rgs n, ∀ s0 : DL.Slot, compF [.d (eL R), .d (eL row), .d (eL (rgs n)), .un, .un, .un] (.nm 4) xYes (xCall m_distance (xCons (xVar 1) (xCons (xVar 4) xNil))) (R.map Enc.e) [] = M.pure (eL (R.map fun one => (dT row one : Int))) := by
      intro row hrow _
      obtain ⟨g, l⟩ := rgs_isG h0 h1 hrow
      rw [v_map Enc.e (fun one => .int (dT row one : Nat)) _ ?_]
      · unfold eL
        rw [List.map_map]
        rfl
      · intro one h
        exact ⟨_, rfl, by simp [distance_ok g (show one.length = row.length by rw [(hR one h).2, l])]⟩
    have hs : compF [.d (eL R), .un, .d (eL (rgs n)), .un, .un, .un] (.nm 1) xYes (xCall kSum (xCons (xLc [4] (.nm 4) (xIt asL (xVar 0)) xYes (xCall m_distance (xCons (xVar 1) (xCons (xVar 4) xNil)))) xNil)) ((rgs n).map Enc.e) [] = M.pure (eL ((rgs n).map (sumD R))) := by
      rw [v_map Enc.e (fun row => .int (sumD R row)) _ ?_]
      · unfold eL
        rw [List.map_map]
        rfl
      · intro row hrow
        exact ⟨_, rfl, by simp [hsum row hrow .un, sumD]⟩
    have hne := rgs_len7 n h0 h1
    have hmin : kMin [eL ((rgs n).map (sumD R))] = M.pure (.int (minI ((rgs n).map (sumD R)))) := kMin_l (by rw [List.length_map]; omega)
    simp [m_middle_groupings, f_middle_groupings, hlen, e, ho, lo, rows_of_ok h0 h1]
    rw [hs]
    simp
    rw [kZip_l]
    simp only [v_bind_pure]
    rw [v_filter Enc.e (fun (p : List Int × Int) => decide (p.2 = minI ((rgs n).map (sumD R)))) (fun p => eL p.1) _ ?_]
    · simp only [v_nerr_pure, v_bindS_pure, v_run_ret]
      have := zip_map_filter (sumD R) (minI ((rgs n).map (sumD R))) (rgs n)
      unfold middleT
      rw [← this]
      unfold eL
      rw [List.map_map]
      rfl
    · rintro ⟨row, s⟩ hp
      refine ⟨_, rfl, ?_, fun _ => ?_⟩
      · simp [setAll, hmin]
      · simp [setAll]
end Pg

/-! Meets, joins, chains. -/
namespace Pg
open PySem PySem.Spec PyProof.Rows L2 DL
theorem ixN_nat {n j : Nat} (h : j < n) : ixN n (j : Int) = some j := by
  unfold ixN
  rw [if_pos (by omega), if_pos (by omega)]
  rfl
theorem v_put2 {ρ : List DL.Slot} {i j k : Nat} {xs : List D} {fj fk fe : X D} {d1 d2 : D} (hi : i < ρ.length) (e : ρ[i]? = some (.own xs)) (he : fe ρ = M.pure (.tuple [d1, d2])) (hj : fj ρ = M.pure (.int (j : Nat))) (hjl : j < xs.length)
    (hk : fk (ρ.set i (.own (xs.set j d1))) = M.pure (.int (k : Nat))) (hkl : k < xs.length) : sPut2 i fj fk fe ρ = S.nx (ρ.set i (.own ((xs.set j d1).set k d2))) := by
  funext w
  unfold sPut2
  rw [e, he]
  show Res.to (fj ρ w) ρ _ = _
  rw [hj]
  show (DL.putAt i xs d1 (.int (j : Nat)) ρ w).seq _ = _
  have e1 : DL.putAt i xs d1 (.int (j : Nat)) ρ w = .nx (ρ.set i (.own (xs.set j d1))) w := by
    unfold DL.putAt
    dsimp only
    rw [ixN_nat hjl]
  rw [e1]
  show (match (ρ.set i (.own (xs.set j d1)))[i]? with | some (.own ys) => _ | _ => _) = _
  rw [List.getElem?_set_self hi]
  show Res.to (fk _ w) _ _ = _
  rw [hk]
  show DL.putAt i (xs.set j d1) d2 (.int (k : Nat)) (ρ.set i (.own (xs.set j d1))) w = _
  unfold DL.putAt
  dsimp only
  rw [ixN_nat (by rw [List.length_set]; exact hkl)]
  dsimp only
  rw [List.set_set]
  rfl
theorem meet_ok {a b : List Int} (h : min a.length b.length ≤ 90000) : m_meet [eL a, eL b] = M.pure (eL (meetT a b)) := by
  simp [m_meet, f_meet, kLstZip_l h]
  rw [numbered_ok (by rw [List.length_zip]; omega)]
  simp [meetT]
theorem coarsest_finer_ok {a b : List Int} (ha : isG a = true) (hb : isG b = true) (h : b.length = a.length) : m_coarsest_finer [eL a, eL b] = M.pure (eL (meetT a b)) := by
  have := isG_len ha
  simp [m_coarsest_finer, f_coarsest_finer, check_both_ok ha hb h, meet_ok (a := a) (b := b) (by omega)]
theorem foldl_filterP {α β : Type} (p : α → Bool) (f : β → α → β) : ∀ (xs : List α) (s : β), xs.foldl (fun s x => if p x then f s x else s) s = (xs.filter p).foldl f s
  | [], s => rfl
  | x :: xs, s => by
    rw [List.foldl_cons, List.filter_cons]
    cases h : p x with
    | true => rw [if_pos rfl, if_pos rfl, List.foldl_cons]; exact foldl_filterP p f xs _
    | false => rw [if_neg (by simp), if_neg (by simp)]; exact foldl_filterP p f xs _
theorem own_ix {fd : List Int} {k : Int} (h : k ∈ rg fd.length) : kIx (eL fd) (.int k) = M.pure (.int (at0 fd k)) := kIx_rg h
theorem xPeek_own {ρ : List DL.Slot} {i : Nat} {xs : List Int} (e : ρ[i]? = some (.own (xs.map Enc.e))) : xPeek i ρ = M.pure (eL xs) := by
  unfold xPeek
  rw [e]
  rfl
/-- one step of linking -/
theorem put_low {ρ : List DL.Slot} {fd : List Int} {k j : Int} (hl : 6 < ρ.length) (e2 : ρ[2]? = some (.own (fd.map Enc.e))) (e4 : ρ[4]? = some (.d (.int k))) (e5 : ρ[5]? = some (.d (.int j))) (hk : k ∈ rg fd.length) (hj : j ∈ rg fd.length) :
    (sSeq (sSet 6 (xCall kMin2 (xCons (x2 kIx (xPeek 2) (xVar 4)) (xCons (x2 kIx (xPeek 2) (xVar 5)) xNil)))) (sPut2 2 (xVar 4) (xVar 5) (xTup (xCons (xVar 6) (xCons (xVar 6) xNil))))) ρ
      = S.nx ((ρ.set 6 (.d (.int (min (at0 fd k) (at0 fd j))))).set 2 (.own ((stepC fd (k, j)).map Enc.e))) := by
  have hk' := rg_mem.mp hk
  have hj' := rg_mem.mp hj
  have p4 : xVar 4 ρ = M.pure (.int k) := by unfold xVar; rw [e4]
  have p5 : xVar 5 ρ = M.pure (.int j) := by unfold xVar; rw [e5]
  have f2 : (ρ.set 6 (.d (.int (min (at0 fd k) (at0 fd j)))))[2]? = some (.own (fd.map Enc.e)) := by rw [List.getElem?_set_ne (by decide)]; exact e2
  have f4 : (ρ.set 6 (.d (.int (min (at0 fd k) (at0 fd j)))))[4]? = some (.d (.int k)) := by rw [List.getElem?_set_ne (by decide)]; exact e4
  have f5 : (ρ.set 6 (.d (.int (min (at0 fd k) (at0 fd j)))))[5]? = some (.d (.int j)) := by rw [List.getElem?_set_ne (by decide)]; exact e5
  have f6 : (ρ.set 6 (.d (.int (min (at0 fd k) (at0 fd j)))))[6]? = some (.d (.int (min (at0 fd k) (at0 fd j)))) := List.getElem?_set_self hl
  have g6 : xVar 6 (ρ.set 6 (.d (.int (min (at0 fd k) (at0 fd j))))) = M.pure (.int (min (at0 fd k) (at0 fd j))) := by unfold xVar; rw [f6]
  simp only [v_sSeq, v_xCall, v_xCons, v_x2, xPeek_own e2, p4, p5, v_bind_pure, own_ix hk, own_ix hj, v_xNil, v_kMin2, v_sSet, v_bindS_pure, v_seq_nx]
  have key := v_put2 (ρ := ρ.set 6 (.d (.int (min (at0 fd k) (at0 fd j))))) (i := 2) (j := k.toNat) (k := j.toNat) (xs := fd.map Enc.e) (fj := xVar 4) (fk := xVar 5) (fe := xTup (xCons (xVar 6) (xCons (xVar 6) xNil))) (d1 := .int (min (at0 fd k) (at0 fd j))) (d2 := .int (min (at0 fd k) (at0 fd j)))
    (by rw [List.length_set]; omega) f2 (by simp [g6]) (by unfold xVar; rw [f4, Int.toNat_of_nonneg hk'.1]) (by rw [List.length_map]; omega)
    (by unfold xVar; rw [List.getElem?_set_ne (by decide), f5, Int.toNat_of_nonneg hj'.1]) (by rw [List.length_map]; omega)
  rw [key]
  congr 3
  unfold stepC
  rw [List.map_set, List.map_set]
  rfl
theorem v_forL {β : Type} {t : Tgt} {body : Sm} {α : Type} (R : β → List DL.Slot → Prop) (f : α → D) (step : β → α → β) (xs : List α) (s : β) (ρ : List DL.Slot) (r : R s ρ)
    (h : ∀ x ∈ xs, ∀ s ρ, R s ρ → ∃ ρ1 ρ2, t.set (f x) ρ = some ρ1 ∧ body ρ1 = S.nx ρ2 ∧ R (step s x) ρ2) : ∃ ρ', forF t body (xs.map f) ρ = S.nx ρ' ∧ R (xs.foldl step s) ρ' :=
  v_for R f step xs s ρ r fun x hx s ρ r => by
    obtain ⟨ρ1, ρ2, a, b, c⟩ := h x hx s ρ r
    exact ⟨ρ1, ρ2, a, .inl b, c⟩
def jstep (a b : List Int) (k : Int) (fd : List Int) (j : Int) : List Int := if sm a (k, j) || sm b (k, j) then stepC fd (k, j) else fd
theorem join_ok {a b : List Int} (h1 : a.length ≤ 1000) (h : b.length = a.length) : m_join [eL a, eL b] = M.pure (eL (joinT a b)) := by
  have hn : kRg (.int (a.length : Nat)) = M.pure ((rg a.length).map Enc.e) := kRg_n (by omega)
  let R : List Int → List DL.Slot → Prop := fun fd ρ => ∃ j3 j4 j5 j6, ρ = [.d (eL a), .d (eL b), .own (fd.map Enc.e), j3, j4, j5, j6] ∧ fd.length = a.length
  have inner : ∀ k ∈ rg a.length, ∀ (fd : List Int) (j3 j5 j6 : DL.Slot), fd.length = a.length → ∃ ρ', forF (.nm 5) b_join_1 ((rg a.length).map Enc.e) [.d (eL a), .d (eL b), .own (fd.map Enc.e), j3, .d (.int k), j5, j6] = S.nx ρ' ∧
      ∃ j5 j6, ρ' = [.d (eL a), .d (eL b), .own (((rg a.length).foldl (jstep a b k) fd).map Enc.e), j3, .d (.int k), j5, j6] ∧ ((rg a.length).foldl (jstep a b k) fd).length = a.length := by
    intro k hk fd j3 j5 j6 hfd
    refine v_forL (fun fd ρ => ∃ j5 j6, ρ = [.d (eL a), .d (eL b), .own (fd.map Enc.e), j3, .d (.int k), j5, j6] ∧ fd.length = a.length) Enc.e (jstep a b k) (rg a.length) fd _ ⟨_, _, rfl, hfd⟩ ?_
    rintro j hj fd ρ ⟨j5, j6, rfl, hl⟩
    have e1 := kIx_rg hk
    have e2 := kIx_rg hj
    have e3 : kIx (eL b) (.int k) = M.pure (.int (at0 b k)) := kIx_rg (by rw [h]; exact hk)
    have e4 : kIx (eL b) (.int j) = M.pure (.int (at0 b j)) := kIx_rg (by rw [h]; exact hj)
    have hp := put_low (ρ := [.d (eL a), .d (eL b), .own (fd.map Enc.e), j3, .d (.int k), .d (.int j), j6]) (fd := fd) (k := k) (j := j) (by simp) rfl rfl rfl (by rw [hl]; exact hk) (by rw [hl]; exact hj)
    cases hc : (sm a (k, j) || sm b (k, j)) with
    | true =>
      refine ⟨_, _, rfl, ?_, .d (.int j), .d (.int (min (at0 fd k) (at0 fd j))), by unfold jstep; rw [hc], by unfold jstep; rw [hc, if_pos rfl, stepC_len]; exact hl⟩
      have hh : b_join_1 [.d (eL a), .d (eL b), .own (fd.map Enc.e), j3, .d (.int k), .d (.int j), j6] = S.nx (([DL.Slot.d (eL a), .d (eL b), .own (fd.map Enc.e), j3, .d (.int k), .d (.int j), j6].set 6 (.d (.int (min (at0 fd k) (at0 fd j))))).set 2 (.own ((stepC fd (k, j)).map Enc.e))) := by
        unfold sm at hc
        unfold b_join_1
        rw [v_sIf, hp]
        simp only [v_xOr, v_xT, v_x2, v_varS, v_var0, v_bind_pure, e1, e2, e3, e4, v_kEqI, v_asB]
        cases q : decide (at0 a k = at0 a j) with
        | true => simp
        | false =>
          rw [q, Bool.false_or] at hc
          simp [hc]
      exact hh
    | false =>
      refine ⟨_, _, rfl, ?_, .d (.int j), j6, by unfold jstep; rw [hc], by unfold jstep; rw [hc]; exact hl⟩
      have hh : b_join_1 [.d (eL a), .d (eL b), .own (fd.map Enc.e), j3, .d (.int k), .d (.int j), j6] = S.nx [DL.Slot.d (eL a), .d (eL b), .own (fd.map Enc.e), j3, .d (.int k), .d (.int j), j6] := by
        unfold sm at hc
        rw [Bool.or_eq_false_iff] at hc
        unfold b_join_1
        rw [v_sIf]
        simp only [v_xOr, v_xT, v_x2, v_varS, v_var0, v_bind_pure, e1, e2, e3, e4, v_kEqI, v_asB, hc.1, hc.2]
        simp
      exact hh
  have mid : ∀ (fd : List Int) (j3 j4 j5 j6 : DL.Slot), fd.length = a.length → ∃ ρ', forF (.nm 4) b_join_2 ((rg a.length).map Enc.e) [.d (eL a), .d (eL b), .own (fd.map Enc.e), j3, j4, j5, j6] = S.nx ρ' ∧
      ∃ j4 j5 j6, ρ' = [.d (eL a), .d (eL b), .own ((sweepC (adjP a b) fd).map Enc.e), j3, j4, j5, j6] ∧ (sweepC (adjP a b) fd).length = a.length := by
    intro fd j3 j4 j5 j6 hfd
    have hs : sweepC (adjP a b) fd = (rg a.length).foldl (fun fd k => (rg a.length).foldl (jstep a b k) fd) fd := by
      unfold sweepC adjP
      rw [← foldl_filterP]
      unfold allP
      rw [List.foldl_flatMap]
      congr 1
      funext fd k
      rw [List.foldl_map]
      rfl
    rw [hs]
    refine v_forL (fun fd ρ => ∃ j4 j5 j6, ρ = [.d (eL a), .d (eL b), .own (fd.map Enc.e), j3, j4, j5, j6] ∧ fd.length = a.length) Enc.e (fun fd k => (rg a.length).foldl (jstep a b k) fd) (rg a.length) fd _ ⟨_, _, _, rfl, hfd⟩ ?_
    rintro k hk fd ρ ⟨j4, j5, j6, rfl, hl⟩
    obtain ⟨ρ', e, j5', j6', rfl, hl'⟩ := inner k hk fd j3 j5 j6 hl
    refine ⟨_, _, rfl, ?_, .d (.int k), j5', j6', rfl, hl'⟩
    unfold b_join_2
    rw [v_sFor]
    simp [hn]
    exact e
  have outer : ∀ (t : Nat) (ts : List Int) (fd : List Int) (j3 j4 j5 j6 : DL.Slot), ts.length = t → fd.length = a.length → ∃ k3 k4 k5 k6, forF (.nm 3) b_join_3 (ts.map Enc.e) [.d (eL a), .d (eL b), .own (fd.map Enc.e), j3, j4, j5, j6] = S.nx
      [.d (eL a), .d (eL b), .own ((roundsC (adjP a b) t fd).map Enc.e), k3, k4, k5, k6] := by
    intro t
    induction t with
    | zero =>
      intro ts fd j3 j4 j5 j6 ht hfd
      cases ts with
      | nil => exact ⟨_, _, _, _, rfl⟩
      | cons x xs => cases ht
    | succ t ih =>
      intro ts fd j3 j4 j5 j6 ht hfd
      cases ts with
      | nil => cases ht
      | cons x xs =>
        obtain ⟨ρ', e, j4', j5', j6', rfl, hl'⟩ := mid fd (.d (.int x)) j4 j5 j6 hfd
        obtain ⟨k3, k4, k5, k6, e2⟩ := ih xs (sweepC (adjP a b) fd) (.d (.int x)) j4' j5' j6' (by simpa using ht) hl'
        refine ⟨k3, k4, k5, k6, ?_⟩
        rw [List.map_cons, for_cons (ρ1 := [.d (eL a), .d (eL b), .own (fd.map Enc.e), .d (.int x), j4, j5, j6]) rfl (by unfold b_join_3; rw [v_sFor]; simp [hn]; exact e)]
        exact e2
  obtain ⟨j3, j4, j5, j6, e⟩ := outer a.length (rg a.length) (rg a.length) .un .un .un .un (rg_len _) (rg_len _)
  have hl : kLstRg (.int (a.length : Nat)) = M.pure (eL (rg a.length)) := kLstRg_n (by omega)
  simp [m_join, f_join, hl, hn]
  rw [e]
  simp
  rw [v_frz rfl]
  simp
  rw [numbered_ok (by rw [roundsC_len, rg_len]; omega)]
  simp [joinT, linkT]
end Pg

/-! All groupings, each once. -/
namespace DL
theorem rg_nodup (n : Nat) : (rg n).Nodup := by
  unfold rg
  rw [List.nodup_iff_pairwise_ne, List.pairwise_map]
  refine (List.nodup_iff_pairwise_ne.mp List.nodup_range).imp ?_
  intro a b h e
  exact h (by omega)
theorem rgs_nodup : ∀ n, (rgs n).Nodup
  | 0 => by simp [rgs]
  | n + 1 => by
    unfold rgs
    rw [List.nodup_iff_pairwise_ne, List.pairwise_flatMap]
    constructor
    · intro a _
      rw [List.pairwise_map]
      refine (List.nodup_iff_pairwise_ne.mp (rg_nodup _)).imp ?_
      intro x y h e
      have := List.append_cancel_left e
      simp at this
      exact h this
    · refine (List.nodup_iff_pairwise_ne.mp (rgs_nodup n)).imp ?_
      intro a b h x hx y hy e
      rw [List.mem_map] at hx hy
      obtain ⟨i, _, rfl⟩ := hx
      obtain ⟨j, _, rfl⟩ := hy
      exact h (List.append_inj_left' e rfl)
theorem filter_one {α : Type} [DecidableEq α] {a : α} : ∀ {xs : List α}, xs.Nodup → a ∈ xs → xs.filter (fun x => decide (x = a)) = [a]
  | [], _, h => by simp at h
  | x :: r, hn, h => by
    obtain ⟨h1, h2⟩ := List.nodup_cons.mp hn
    rw [List.filter_cons]
    by_cases e : x = a
    · rw [if_pos (decide_eq_true e)]
      have : r.filter (fun x => decide (x = a)) = [] := by
        rw [List.filter_eq_nil_iff]
        intro y hy
        have : y ≠ a := fun z => h1 (by rw [e, ← z]; exact hy)
        simp [this]
      rw [this, e]
    · rw [if_neg (by simp [e])]
      rcases List.mem_cons.mp h with q | q
      · exact absurd q.symm e
      · exact filter_one h2 q
theorem rgs_filter {n : Nat} {a : List Int} (h : a ∈ rgs n) : (rgs n).filter (fun x => decide (x = a)) = [a] := filter_one (rgs_nodup n) h
/-- the items at the places where a second list is as told -/
theorem places_filter {α : Type} (f : α → Int) (m : Int) (d : α) (xs : List α) : ((rg xs.length).filter fun k => decide (at0 (xs.map f) k = m)).map (fun k => xs.getD k.toNat d) = xs.filter fun x => decide (f x = m) := by
  have key : ∀ (ys pre : List α), xs = pre ++ ys → (((List.range' pre.length ys.length).map fun (k : Nat) => (k : Int)).filter fun k => decide (at0 (xs.map f) k = m)).map (fun k => xs.getD k.toNat d) = ys.filter fun x => decide (f x = m) := by
    intro ys
    induction ys with
    | nil => intro pre _; rfl
    | cons y ys ih =>
      intro pre e
      have e2 : xs = (pre ++ [y]) ++ ys := by rw [e]; simp
      have h1 : xs[pre.length]? = some y := by rw [e]; simp
      have h2 : at0 (xs.map f) (pre.length : Nat) = f y := by
        unfold at0
        rw [Int.toNat_natCast, List.getD_eq_getElem?_getD, List.getElem?_map, h1]
        rfl
      have h3 : xs.getD (pre.length : Int).toNat d = y := by rw [Int.toNat_natCast, List.getD_eq_getElem?_getD, h1]; rfl
      have ih' := ih (pre ++ [y]) e2
      rw [List.length_append, List.length_singleton] at ih'
      rw [List.length_cons, List.range'_succ, List.map_cons, List.filter_cons, List.filter_cons, h2]
      by_cases q : f y = m
      · rw [if_pos (decide_eq_true q), if_pos (decide_eq_true q), List.map_cons, ih', h3]
      · rw [if_neg (by simp [q]), if_neg (by simp [q]), ih']
  have := key xs [] rfl
  rw [List.length_nil, ← List.range_eq_range'] at this
  exact this
/-- the sum to two is least exactly between them -/
theorem sumD_two {a b : List Int} (row : List Int) : sumD [a, b] row = (dT row a : Int) + dT row b := by simp [sumD]
theorem middle_two {n : Nat} {a b : List Int} (ha : a ∈ rgs n) (h0 : 1 ≤ n) (h1 : n ≤ 7) (hb : b.length = n) : (rgs n).filter (fun row => decide (sumD [a, b] row = minI ((rgs n).map (sumD [a, b])))) = (rgs n).filter fun m => betT a m b := by
  have la := (rgs_isG h0 h1 ha).2
  have hs : ∀ row ∈ rgs n, sumD [a, b] row = (dT a row : Int) + dT row b := by
    intro row hr
    have lr := (rgs_isG h0 h1 hr).2
    rw [sumD_two, dT_symm (a := row) (b := a) (by rw [la, lr])]
  have hmin : minI ((rgs n).map (sumD [a, b])) = dT a b := by
    refine minI_eq ?_ fun x hx => ?_
    · rw [List.mem_map]
      refine ⟨a, ha, ?_⟩
      rw [hs a ha, dT_self]
      simp
    · rw [List.mem_map] at hx
      obtain ⟨row, hr, rfl⟩ := hx
      rw [hs row hr]
      have := dT_tri (a := a) (m := row) (b := b) (by rw [la, (rgs_isG h0 h1 hr).2])
      omega
  refine List.filter_congr fun row hr => ?_
  have lr := (rgs_isG h0 h1 hr).2
  have hbt := dT_bet (a := a) (m := row) (b := b) (by rw [la, lr])
  rw [hmin, hs row hr]
  cases hz : betT a row b with
  | true => exact decide_eq_true (by have := hbt.mpr hz; omega)
  | false =>
    refine decide_eq_false fun e => ?_
    rw [hbt.mp (by omega)] at hz
    cases hz
theorem middle_one {n : Nat} {a : List Int} (ha : a ∈ rgs n) (h0 : 1 ≤ n) (h1 : n ≤ 7) : (rgs n).filter (fun row => decide (sumD [a] row = minI ((rgs n).map (sumD [a])))) = [a] := by
  obtain ⟨ga, la⟩ := rgs_isG h0 h1 ha
  have hs : ∀ row, sumD [a] row = (dT row a : Int) := by intro row; simp [sumD]
  have hmin : minI ((rgs n).map (sumD [a])) = 0 := by
    refine minI_eq ?_ fun x hx => ?_
    · rw [List.mem_map]
      exact ⟨a, ha, by rw [hs, dT_self]; rfl⟩
    · rw [List.mem_map] at hx
      obtain ⟨row, _, rfl⟩ := hx
      rw [hs]
      omega
  rw [hmin]
  refine Eq.trans (List.filter_congr fun row hr => ?_) (rgs_filter ha)
  obtain ⟨gr, lr⟩ := rgs_isG h0 h1 hr
  rw [hs]
  refine decide_eq_decide.mpr ?_
  have := dT_zero gr ga (by rw [la, lr])
  constructor
  · intro e
    exact this.mp (by omega)
  · intro e
    have := this.mpr e
    omega
end DL

/-! Steps of laws. -/
namespace Pg
open PySem PySem.Spec PyProof.Rows L2 DL
section
variable {ρ ρ' : List DL.Slot} {w w' : W'} {h s : Sm} {fe : X D} {ft : X Bool}
theorem good_seqW (e : s ρ w = .nx ρ' w') (k : Good (h ρ' w')) : Good (sSeq s h ρ w) := by
  unfold sSeq
  rw [e]
  exact k
theorem good_seqE (e : s ρ = S.nx ρ') (k : Good (h ρ' w)) : Good (sSeq s h ρ w) := good_seqW (w' := w) (by rw [e]; rfl) k
theorem sPar_ok {i j : Nat} {fs : X (List D)} {a b : D} (e : fs ρ w = .ok [a, b] w') : sPar i j fs ρ w = .nx ((ρ.set i (.d a)).set j (.d b)) w' := by
  unfold sPar
  rw [e]
  rfl
theorem xTup_ok {fs : X (List D)} {ds : List D} (e : fs ρ w = .ok ds w') : xTup fs ρ w = .ok (.tuple ds) w' := by
  unfold xTup
  rw [bind_ok e]
  rfl
theorem sTgt_ok {t : Tgt} {d : D} (e : fe ρ w = .ok d w') (ht : t.set d ρ = some ρ') : sTgt t fe ρ w = .nx ρ' w' := by
  unfold sTgt
  rw [e]
  show (match t.set d ρ with | some ρ' => SR.nx ρ' w' | none => .bad) = _
  rw [ht]
theorem draw_call1 {n : Int} (d : DW w) (h1 : ρ[1]? = some (.d (hnd 0))) (p : 0 < n) (q : n < 1000000) :
    ∃ r w', xCall m__law_draw (xCons (xVar 1) (xCons (xC (.int n)) xNil)) ρ w = .ok (.int r) w' ∧ 0 ≤ r ∧ r < n ∧ DW w' := draw_call d h1 rfl p q
/-- a grouping drawn, its size in a slot -/
theorem grp_call {n : Nat} {k : Nat} (d : DW w) (h1 : ρ[1]? = some (.d (hnd 0))) (hk : ρ[k]? = some (.d (.int (n : Nat)))) (h0 : 1 ≤ n) (h7 : n ≤ 7) :
    ∃ (row : List Int) (w' : W'), xCall m__law_grouping (xCons (xVar 1) (xCons (xVar k) xNil)) ρ w = .ok (eL row) w' ∧ row.length = n ∧ isG row = true ∧ DW w' := by
  obtain ⟨row, w', e, l, g, d'⟩ := grouping_ok d h0 h7
  exact ⟨row, w', (xCall_ok (xCons_ok (xVar_ok h1) (xCons_ok (xVar_ok hk) xNil_ok))).trans e, l, g, d'⟩
end
theorem in_b {α : Type} [DecidableEq α] [Enc α] [Sh α] {a : α} {xs : List α} {b : Bool} (h : a ∈ xs ↔ b = true) : kIn (Enc.e a) (eL xs) = M.pure (.bool b) := by
  cases b with
  | true => exact v_inY (h.mpr rfl)
  | false => exact v_inN fun z => by cases h.mp z
theorem notIn_b {α : Type} [DecidableEq α] [Enc α] [Sh α] {a : α} {xs : List α} {b : Bool} (h : a ∈ xs ↔ b = true) : kNotIn (Enc.e a) (eL xs) = M.pure (.bool (!b)) := by
  cases b with
  | true => exact v_notInY (h.mpr rfl)
  | false => exact v_notInN fun z => by cases h.mp z
theorem in_row {a : List Int} {xs : List (List Int)} {b : Bool} (h : a ∈ xs ↔ b = true) : kIn (eL a) (eL xs) = M.pure (.bool b) := in_b h
theorem notIn_row {a : List Int} {xs : List (List Int)} {b : Bool} (h : a ∈ xs ↔ b = true) : kNotIn (eL a) (eL xs) = M.pure (.bool (!b)) := notIn_b h
theorem in_pair {a : Int × Int} {xs : List (Int × Int)} {b : Bool} (h : a ∈ xs ↔ b = true) : kIn (.tuple [.int a.1, .int a.2]) (eL xs) = M.pure (.bool b) := in_b h
theorem notIn_pair {a : Int × Int} {xs : List (Int × Int)} {b : Bool} (h : a ∈ xs ↔ b = true) : kNotIn (.tuple [.int a.1, .int a.2]) (eL xs) = M.pure (.bool (!b)) := notIn_b h
theorem mem_filterB {α : Type} {p : α → Bool} {a : α} {xs : List α} (h : a ∈ xs) : a ∈ xs.filter p ↔ p a = true := by
  rw [List.mem_filter]
  exact ⟨fun z => z.2, fun z => ⟨h, z⟩⟩
theorem law_true_ok (a b : Bool) : m__law_true [.bool a, .bool b] = M.pure (.bool (decide (a = b))) := by
  simp [m__law_true, f__law_true]
theorem finest_coarser_ok {a b : List Int} (ha : isG a = true) (hb : isG b = true) (h : b.length = a.length) : m_finest_coarser [eL a, eL b] = M.pure (eL (joinT a b)) := by
  have := isG_len ha
  simp [m_finest_coarser, f_finest_coarser, check_both_ok ha hb h, join_ok (a := a) (b := b) (by omega) h]
theorem one_list (a : List Int) : PyData.list [eL a] = eL [a] := rfl
theorem betT_left {a b : List Int} : betT a a b = true := by
  unfold betT
  rw [List.all_eq_true]
  intro p _
  simp
theorem betT_right {a b : List Int} : betT a b b = true := by
  unfold betT
  rw [List.all_eq_true]
  intro p _
  cases sm a p <;> cases sm b p <;> rfl
theorem betT_meet {a b : List Int} (h : b.length = a.length) : betT a (meetT a b) b = true := by
  unfold betT
  rw [List.all_eq_true]
  intro p hp
  rw [sm_meet h hp]
  cases sm a p <;> cases sm b p <;> rfl
theorem betT_self {a m : List Int} (ha : isG a = true) (hm : isG m = true) (h : m.length = a.length) : betT a m a = true ↔ m = a := by
  rw [← dT_bet h, dT_self]
  have h1 := dT_zero ha hm h
  have h2 := dT_symm (a := a) (b := m) h
  constructor
  · intro z; exact (h1.mp (by omega)).symm
  · intro z; subst z; rw [dT_self]
theorem filter_self {n : Nat} {a : List Int} {p : List Int → Bool} (ha : a ∈ rgs n) (h : ∀ m ∈ rgs n, p m = true ↔ m = a) : (rgs n).filter p = [a] := by
  rw [← rgs_filter ha]
  refine List.filter_congr fun m hm => ?_
  have := h m hm
  cases q : p m with
  | true => exact (decide_eq_true (this.mp q)).symm
  | false => exact (decide_eq_false fun z => by rw [this.mpr z] at q; cases q).symm
end Pg

/-! What is told of errors. -/
namespace Pg
open PySem PySem.Spec PyProof.Rows L2 DL
section
variable {ρ ρ1 ρ2 : List DL.Slot} {f h : Sm} {i : Nat} {cs : List Str} {c : Str}
theorem v_try_nx (e : f ρ = S.nx ρ1) : sTry i cs f h ρ = S.nx ρ1 := by
  funext w
  unfold sTry
  rw [e]
  rfl
theorem v_try_ret {d : D} (e : f ρ = S.ret d) : sTry i cs f h ρ = S.ret d := by
  funext w
  unfold sTry
  rw [e]
  rfl
theorem v_try_err (e : f ρ = S.err c ρ1) (hc : cs.contains c = true) (k : h (ρ1.set i (.d (exD c))) = S.nx ρ2) : sTry i cs f h ρ = S.nx (ρ2.set i .un) := by
  funext w
  unfold sTry
  rw [e]
  show (if cs.contains c then tryS i (h (ρ1.set i (.d (exD c))) w) else .bad) = _
  rw [hc, k]
  rfl
theorem v_tryO_nx (e : f ρ = S.nx ρ1) : sTryO cs f h ρ = S.nx ρ1 := by
  funext w
  unfold sTryO
  rw [e]
  rfl
theorem v_tryO_err (e : f ρ = S.err c ρ1) (hc : cs.contains c = true) (k : h ρ1 = S.nx ρ2) : sTryO cs f h ρ = S.nx ρ2 := by
  funext w
  unfold sTryO
  rw [e]
  show (if cs.contains c then tryO (h ρ1 w) else .bad) = _
  rw [hc, k]
  rfl
end
/-- the word for an error -/
def errW (c : Str) : Str := if c = "BadGrouping" then "grouping" else if c = "BadNumber" then "number" else if c = "BadPairs" then "pairs" else if c = "BadText" then "text" else "none"
theorem law_error_chk : errs.all (fun c => eqOk (m__law_error [exD c] []) (.str (errW c))) = true := by decide +kernel
theorem law_error_ok {c : Str} (h : c ∈ errs) : m__law_error [exD c] = M.pure (.str (errW c)) := by
  funext w
  exact pu_eq (pu_m__law_error _) (List.all_eq_true.mp law_error_chk c h) w
@[simp] theorem v_isN_ex (c : Str) : kIs (exD c) .none = M.pure (.bool false) := nr rfl
@[simp] theorem v_isN_non : kIs .none .none = M.pure (.bool true) := nr rfl
@[simp] theorem v_isN_l {α : Type} [DecidableEq α] [Enc α] (xs : List α) : kIs (eL xs) .none = M.pure (.bool false) := nr rfl
@[simp] theorem v_isN_t (xs : List D) : kIs (.tuple xs) .none = M.pure (.bool false) := nr rfl
@[simp] theorem v_isN_i (x : Int) : kIs (.int x) .none = M.pure (.bool false) := nr rfl
theorem ne_same {d : D} (h : SeqAt.shaped d = true) : kNe d d = M.pure (.bool false) := by
  unfold kNe
  rw [h, PySem.SeqAt.eqv_refl d (shaped_lay h)]
  rfl
theorem eq_same {d : D} (h : SeqAt.shaped d = true) : kEq d d = M.pure (.bool true) := by
  unfold kEq
  rw [h, PySem.SeqAt.eqv_refl d (shaped_lay h)]
  rfl
end Pg

set_option maxHeartbeats 4000000
/-! What the pairs compute, 2. -/
namespace Pg
open PySem PySem.Spec PyProof.Rows L2 DL
def togT (a : List Int) : List (Int × Int) := (pairsT a.length).filter (sm a)
theorem pairs_comp {a : List Int} {n : Nat} (hl : a.length = n) {ρ1 : List DL.Slot} {fe1 fe2 fv : X D} {i j : Nat} (hi : ∀ p : Int × Int, fe1 ((ρ1.set i (.d (.int p.1))).set j (.d (.int p.2))) = kIx (eL a) (.int p.1)) (hj : ∀ p : Int × Int, fe2 ((ρ1.set i (.d (.int p.1))).set j (.d (.int p.2))) = kIx (eL a) (.int p.2))
    (hv : ∀ p : Int × Int, fv ((ρ1.set i (.d (.int p.1))).set j (.d (.int p.2))) = M.pure (.tuple [.int p.1, .int p.2])) :
    compF ρ1 (.tp [i, j]) (xT (x2 kEq fe1 fe2)) fv ((pairsT n).map Enc.e) [] = M.pure (eL ((pairsT n).filter (sm a))) := by
  rw [v_filter Enc.e (sm a) Enc.e _ ?_]
  · rfl
  · intro p hp
    obtain ⟨k1, k2⟩ := kIx_pair hl hp
    refine ⟨_, set_pair _ _ _ p, ?_, fun _ => ?_⟩
    · simp [hi, hj, k1, k2]
      rfl
    · exact hv p
theorem together_ok {a : List Int} (ha : isG a = true) : m_together [eL a] = M.pure (eL (togT a)) := by
  obtain ⟨h0, h1⟩ := isG_len ha
  simp [m_together, f_together, all_pairs_ok h0 h1]
  rw [pairs_comp rfl (fun p => by simp) (fun p => by simp) (fun p => by simp)]
  simp [togT]
theorem pairs_together_ok {a : List Int} (ha : isG a = true) : m_pairs_together [eL a] = M.pure (eL (togT a)) := by
  simp [m_pairs_together, f_pairs_together, check_grouping_ok ha, together_ok ha]
theorem kTuple_l {α : Type} [DecidableEq α] [Enc α] (xs : List α) : kTuple [eL xs] = M.pure (eT xs) := rfl
theorem pair_counts_ok {a b : List Int} (ha : isG a = true) (hb : isG b = true) (h : b.length = a.length) : m_pair_counts [eL a, eL b] = M.pure (eT (outT a b)) := by
  simp [m_pair_counts, f_pair_counts, check_both_ok ha hb h, outcomes_ok ha h, kTuple_l]
theorem unlike_pairs_ok {a b : List Int} (ha : isG a = true) (hb : isG b = true) (h : b.length = a.length) : m_unlike_pairs [eL a, eL b] = M.pure (eL (apartT a b)) := by
  obtain ⟨h0, h1⟩ := isG_len ha
  simp [m_unlike_pairs, f_unlike_pairs, check_both_ok ha hb h, all_pairs_ok h0 h1]
  rw [v_filter Enc.e (fun p => !decide (sm a p = sm b p)) Enc.e _ ?_]
  · simp [apartT]
  · intro p hp
    obtain ⟨j1, j2⟩ := kIx_pair rfl hp
    obtain ⟨j3, j4⟩ := kIx_pair h hp
    refine ⟨_, set_pair _ _ _ p, ?_, fun _ => ?_⟩
    · simp [j1, j2, j3, j4, sm]
    · simp
/-- lowest terms -/
def lowD (a b : Nat) : D := .tuple [.int (a / Nat.gcd a b : Nat), .int (b / Nat.gcd a b : Nat)]
theorem lowest_chk : ∀ a ∈ List.range 22, ∀ b ∈ List.range 22, 1 ≤ b → eqOk (m_lowest [.int (a : Nat), .int (b : Nat)] []) (lowD a b) = true ∧ eqOk (m__law_low [.int (a : Nat), .int (b : Nat)] []) (lowD a b) = true := by decide +kernel
theorem lowest_ok {a b : Nat} (h : a ≤ 21) (k : b ≤ 21) (k1 : 1 ≤ b) : m_lowest [.int (a : Nat), .int (b : Nat)] = M.pure (lowD a b) := by
  funext w
  exact pu_eq (pu_m_lowest _) (lowest_chk a (List.mem_range.mpr (by omega)) b (List.mem_range.mpr (by omega)) k1).1 w
theorem law_low_ok {a b : Nat} (h : a ≤ 21) (k : b ≤ 21) (k1 : 1 ≤ b) : m__law_low [.int (a : Nat), .int (b : Nat)] = M.pure (lowD a b) := by
  funext w
  exact pu_eq (pu_m__law_low _) (lowest_chk a (List.mem_range.mpr (by omega)) b (List.mem_range.mpr (by omega)) k1).2 w
theorem pairsT_len : ∀ n ∈ List.range 8, (pairsT n).length = n * (n - 1) / 2 ∧ (pairsT n).length ≤ 21 ∧ (2 ≤ n → 1 ≤ (pairsT n).length) := by decide +kernel
theorem half_chk : ∀ m ∈ List.range 8, ((m : Int) * ((m : Int) - 1)) / 2 = ((m * (m - 1) / 2 : Nat) : Int) := by decide +kernel
theorem dT_le {a b : List Int} (ha : isG a = true) : dT a b ≤ (pairsT a.length).length := List.length_filter_le _ _
theorem agreement_ok {a b : List Int} (ha : isG a = true) (hb : isG b = true) (h : b.length = a.length) :
    m_agreement [eL a, eL b] = if a.length = 1 then M.err "NotFound" else M.pure (lowD ((pairsT a.length).length - dT a b) (pairsT a.length).length) := by
  obtain ⟨h0, h1⟩ := isG_len ha
  have hd := dT_le (b := b) ha
  obtain ⟨p1, p2, p3⟩ := pairsT_len a.length (List.mem_range.mpr (by omega))
  simp [m_agreement, f_agreement, check_both_ok ha hb h]
  by_cases h2 : a.length = 1
  · simp [h2]
  · have h3 : ¬((a.length : Int) = 1) := by omega
    have e1 : kMul (.int (a.length : Nat)) (.int ((a.length : Int) - 1)) = M.pure (.int ((a.length : Int) * ((a.length : Int) - 1))) := v_mulL ⟨by omega, by omega⟩
    have e2 : kDiv (.int ((a.length : Int) * ((a.length : Int) - 1))) (.int 2) = M.pure (.int ((pairsT a.length).length : Nat)) := by
      rw [v_div ⟨by omega, by omega⟩, p1, half_chk a.length (List.mem_range.mpr (by omega))]
    have e3 : ((pairsT a.length).length : Int) - (dT a b : Int) = ((pairsT a.length).length - dT a b : Nat) := by omega
    simp [h2, h3, e1, e2, distance_ok ha h, e3]
    rw [lowest_ok (by omega) p2 (p3 (by omega))]
    simp
theorem count4 (f g : Int × Int → Bool) : ∀ ps : List (Int × Int), (ps.filter f).length = (ps.filter fun p => f p && g p).length + (ps.filter fun p => f p && !g p).length ∧
    (ps.filter g).length = (ps.filter fun p => f p && g p).length + (ps.filter fun p => !f p && g p).length ∧
    ps.length = (ps.filter fun p => f p && g p).length + (ps.filter fun p => f p && !g p).length + (ps.filter fun p => !f p && g p).length + (ps.filter fun p => !f p && !g p).length
  | [] => by simp
  | p :: ps => by
    obtain ⟨h1, h2, h3⟩ := count4 f g ps
    simp only [List.filter_cons]
    cases f p <;> cases g p <;> simp <;> omega
theorem outT_at (a b : List Int) : outT a b = [cT (fun p => sm a p && sm b p) a.length, cT (fun p => sm a p && !sm b p) a.length, cT (fun p => !sm a p && sm b p) a.length, cT (fun p => !sm a p && !sm b p) a.length] := nr rfl
theorem shared_share_ok {a b : List Int} (ha : isG a = true) (hb : isG b = true) (h : b.length = a.length) {c1 c2 c3 c4 : Nat} (e : outT a b = [(c1 : Int), c2, c3, c4]) {s : Nat} (hs : c1 + c2 + c3 = s) (hl : s ≤ 21) :
    m_shared_share [eL a, eL b] = if s = 0 then M.err "NotFound" else M.pure (lowD c1 s) := by
  have e0 : eL (outT a b) = .list [.int c1, .int c2, .int c3, .int c4] := by rw [e]; rfl
  simp [m_shared_share, f_shared_share, check_both_ok ha hb h, outcomes_ok ha h, e0]
  rw [v_unpS rfl]
  have e3 : ((c1 : Int) + c2 + c3) = (s : Int) := by omega
  by_cases z : s = 0
  · rw [if_pos z]
    rw [z] at e3
    have e4 : ((c1 : Int) + c2 + c3) = 0 := e3
    simp [setAll, e4]
  · rw [if_neg z]
    have z2 : decide ((s : Int) = 0) = false := decide_eq_false (by omega)
    have hlow := lowest_ok (a := c1) (b := s) (by omega) hl (by omega)
    simp only [List.map_cons, List.map_nil, setAll, List.set_cons_succ, List.set_cons_zero, v_seq_nx, v_sSeq, v_sIf, v_xT, v_x2, v_varS, v_var0, v_bind_pure, v_kAdd, e3, v_C, v_kEqI, z2, v_asB, v_bindS_pure, v_sNx, v_sRet, v_xCall, v_xCons, v_xNil, hlow, v_run_ret, Bool.false_eq_true, if_false]
def crossR (a b : List Int) (g : Int) : List Int := (rg (nG b)).map fun f => (((rg a.length).filter fun k => decide (at0 a k = g) && decide (at0 b k = f)).length : Int)
def crossT (a b : List Int) : List (List Int) := (rg (nG a)).map (crossR a b)
theorem zip_rg {a b : List Int} (h : b.length = a.length) : a.zip b = (rg a.length).map fun k => (at0 a k, at0 b k) := by
  apply List.ext_getElem?
  intro i
  by_cases hi : i < a.length
  · have h1 : i < (a.zip b).length := by rw [List.length_zip]; omega
    rw [List.getElem?_eq_getElem h1, List.getElem_zip, List.getElem?_map, rg_get hi]
    show some (a[i], b[i]) = some (at0 a i, at0 b i)
    rw [at0_get hi, at0_get (by omega)]
  · rw [List.getElem?_eq_none (by rw [List.length_zip]; omega), List.getElem?_eq_none (by rw [List.length_map, rg_len]; omega)]
theorem cross_inner {a b : List Int} (ha : isG a = true) (h : b.length = a.length) (g f : Int) {ρ1 : List DL.Slot} {i j : Nat} {fg ff fx fy : X D}
    (h1 : ∀ p : Int × Int, fx ((ρ1.set i (.d (.int p.1))).set j (.d (.int p.2))) = M.pure (.int p.1)) (h2 : ∀ p : Int × Int, fy ((ρ1.set i (.d (.int p.1))).set j (.d (.int p.2))) = M.pure (.int p.2))
    (h3 : ∀ p : Int × Int, fg ((ρ1.set i (.d (.int p.1))).set j (.d (.int p.2))) = M.pure (.int g)) (h4 : ∀ p : Int × Int, ff ((ρ1.set i (.d (.int p.1))).set j (.d (.int p.2))) = M.pure (.int f)) :
    compF ρ1 (.tp [i, j]) (xT (x2 kEq (xTup (xCons fx (xCons fy xNil))) (xTup (xCons fg (xCons ff xNil))))) (xC (.int 1)) ((a.zip b).map Enc.e) [] = M.pure (eL ((((rg a.length).filter fun k => decide (at0 a k = g) && decide (at0 b k = f)).map fun _ => (1 : Int)))) := by
  rw [v_filter Enc.e (fun p => decide (p.1 = g) && decide (p.2 = f)) (fun _ => .int 1) _ ?_]
  · rw [zip_rg h, List.filter_map, List.map_map]
    unfold eL
    rw [List.map_map]
    rfl
  · intro p hp
    refine ⟨_, set_pair _ _ _ p, ?_, fun _ => rfl⟩
    have e : kEq (.tuple [.int p.1, .int p.2]) (.tuple [.int g, .int f]) = M.pure (.bool (decide ((p.1, p.2) = (g, f)))) := v_eq (p.1, p.2) (g, f)
    simp only [v_xT, v_x2, v_xTup, v_xCons, v_xNil, h1, h2, h3, h4, v_bind_pure, e, v_asB]
    congr 1
    by_cases q1 : p.1 = g <;> by_cases q2 : p.2 = f <;> simp [q1, q2]
theorem cross_table_ok {a b : List Int} (ha : isG a = true) (hb : isG b = true) (h : b.length = a.length) : m_cross_table [eL a, eL b] = M.pure (eL (crossT a b)) := by
  have na := isG_nG ha
  have nb := isG_nG hb
  have la := isG_len ha
  have k1 := kRgMax_G ha
  have k2 := kRgMax_G hb
  have inner : ∀ (g : Int) (R : List (List Int)) (s4 s5 s6 s7 : DL.Slot), ∃ t5, forF (.nm 5) b_cross_table_1 ((rg (nG b)).map Enc.e) [.d (eL a), .d (eL b), .own (R.map Enc.e), .d (.int g), .own [], s5, s6, s7] = S.nx
      [.d (eL a), .d (eL b), .own (R.map Enc.e), .d (.int g), .own ((crossR a b g).map Enc.e), t5, s6, s7] := by
    intro g R s4 s5 s6 s7
    obtain ⟨ρ', e, t5, hρ⟩ := v_forApp (t := .nm 5) (body := b_cross_table_1) (fun (acc : List Int) ρ => ∃ s5, ρ = [.d (eL a), .d (eL b), .own (R.map Enc.e), .d (.int g), .own (acc.map Enc.e), s5, s6, s7]) Enc.e
      (fun f => [(((rg a.length).filter fun k => decide (at0 a k = g) && decide (at0 b k = f)).length : Int)]) (rg (nG b)) [] [.d (eL a), .d (eL b), .own (R.map Enc.e), .d (.int g), .own [], s5, s6, s7] ⟨_, rfl⟩
      (by rw [flatMap_map, List.nil_append, List.length_map, rg_len]; omega) (by
        rintro f hf acc ρ ⟨s5, rfl⟩ hl
        refine ⟨_, [.d (eL a), .d (eL b), .own (R.map Enc.e), .d (.int g), .own ((acc ++ [(((rg a.length).filter fun k => decide (at0 a k = g) && decide (at0 b k = f)).length : Int)]).map Enc.e), .d (.int f), s6, s7], rfl, .inl ?_, _, rfl⟩
        show b_cross_table_1 [.d (eL a), .d (eL b), .own (R.map Enc.e), .d (.int g), .own (acc.map Enc.e), .d (.int f), s6, s7] = _
        unfold b_cross_table_1
        rw [v_app rfl (by rw [List.length_map]; rw [List.length_append] at hl; omega)]
        have hc := cross_inner (ρ1 := [.d (eL a), .d (eL b), .own (R.map Enc.e), .d (.int g), .own (acc.map Enc.e), .d (.int f), .un, .un]) (i := 6) (j := 7) (fx := xVar 6) (fy := xVar 7) (fg := xVar 3) (ff := xVar 5) ha h g f (fun p => by simp) (fun p => by simp) (fun p => by simp) (fun p => by simp)
        simp [kZip_l, hc])
    subst hρ
    rw [flatMap_map, List.nil_append] at e
    exact ⟨t5, e⟩
  obtain ⟨ρ', e, t3, t4, t5, hρ⟩ := v_forApp (t := .nm 3) (body := b_cross_table_2) (fun (acc : List (List Int)) ρ => ∃ s3 s4 s5, ρ = [.d (eL a), .d (eL b), .own (acc.map Enc.e), s3, s4, s5, .un, .un]) Enc.e
    (fun g => [crossR a b g]) (rg (nG a)) [] [.d (eL a), .d (eL b), .own [], .un, .un, .un, .un, .un] ⟨_, _, _, rfl⟩
    (by rw [flatMap_map, List.nil_append, List.length_map, rg_len]; omega) (by
      rintro g hg acc ρ ⟨s3, s4, s5, rfl⟩ hl
      obtain ⟨t5, e⟩ := inner g acc s4 s5 .un .un
      refine ⟨_, [.d (eL a), .d (eL b), .own ((acc ++ [crossR a b g]).map Enc.e), .d (.int g), .d (eL (crossR a b g)), t5, .un, .un], rfl, .inl ?_, _, _, _, rfl⟩
      show b_cross_table_2 [.d (eL a), .d (eL b), .own (acc.map Enc.e), .d (.int g), s4, s5, .un, .un] = _
      unfold b_cross_table_2
      simp [kMax_G hb, k2, e]
      rw [v_frz rfl]
      have hl2 : acc.length < 100000 := by rw [List.length_append] at hl; omega
      simp
      rw [v_app rfl (by rw [List.length_map]; exact hl2)]
      simp)
  subst hρ
  rw [flatMap_map, List.nil_append] at e
  simp [m_cross_table, f_cross_table, check_both_ok ha hb h, kMax_G ha, k1, e, -List.map_map]
  rw [v_frz rfl]
  simp [crossT, -List.map_map]
def finB (a b : List Int) : Bool := (pairsT a.length).all fun p => !(sm a p && !sm b p)
theorem is_finer_ok {a b : List Int} (ha : a.length ≤ 1000) (h : b.length = a.length) : m_is_finer [eL a, eL b] = M.pure (.bool (finB a b)) := by
  have hn : kRg (.int (a.length : Nat)) = M.pure ((rg a.length).map Enc.e) := kRg_n (by omega)
  have inner : ∀ (k : Nat), k < a.length → ∀ s3 : DL.Slot, ∃ t3, forF (.nm 3) b_is_finer_1 ((rg k).map Enc.e) [.d (eL a), .d (eL b), .d (.int k), s3] = if (rg k).all (fun j => !(decide (at0 a k = at0 a j) && !decide (at0 b k = at0 b j))) then S.nx [.d (eL a), .d (eL b), .d (.int k), t3] else S.ret (.bool false) := by
    intro k hk s3
    obtain ⟨ρ', e, t3, rfl⟩ := v_forAll (t := .nm 3) (body := b_is_finer_1) (ρ := [.d (eL a), .d (eL b), .d (.int k), s3]) (fun ρ => ∃ s3, ρ = [.d (eL a), .d (eL b), .d (.int k), s3]) Enc.e (fun j => !(decide (at0 a k = at0 a j) && !decide (at0 b k = at0 b j))) (.bool false) (rg k) ⟨_, rfl⟩ (by
      rintro j hj ρ ⟨s3, rfl⟩
      have hj' := rg_mem.mp hj
      have e1 : kIx (eL a) (.int (k : Nat)) = M.pure (.int (at0 a k)) := v_ixI (by omega) (by omega)
      have e2 : kIx (eL a) (.int j) = M.pure (.int (at0 a j)) := v_ixI (by omega) (by omega)
      have e3 : kIx (eL b) (.int (k : Nat)) = M.pure (.int (at0 b k)) := v_ixI (by omega) (by omega)
      have e4 : kIx (eL b) (.int j) = M.pure (.int (at0 b j)) := v_ixI (by omega) (by omega)
      refine ⟨_, [.d (eL a), .d (eL b), .d (.int k), .d (.int j)], rfl, ?_, _, rfl⟩
      simp only [b_is_finer_1, v_sIf, v_xAnd, v_xT, v_x2, v_varS, v_var0, v_eI, List.set_cons_succ, List.set_cons_zero, v_bind_pure, e1, e2, e3, e4, v_kEqI, v_kNeI, v_asB]
      cases decide (at0 a k = at0 a j) <;> cases decide (at0 b k = at0 b j) <;> simp)
    exact ⟨t3, e⟩
  obtain ⟨ρ', e, t2, t3, rfl⟩ := v_forAll (t := .nm 2) (body := b_is_finer_2) (ρ := [.d (eL a), .d (eL b), .un, .un]) (fun ρ => ∃ s2 s3, ρ = [.d (eL a), .d (eL b), s2, s3]) Enc.e (fun k => (rg k.toNat).all (fun j => !(decide (at0 a k = at0 a j) && !decide (at0 b k = at0 b j)))) (.bool false) (rg a.length) ⟨_, _, rfl⟩ (by
    rintro k hk ρ ⟨s2, s3, rfl⟩
    have hk' := rg_mem.mp hk
    obtain ⟨t3, e⟩ := inner k.toNat (by omega) s3
    rw [Int.toNat_of_nonneg hk'.1] at e
    have hr : kRg (.int k) = M.pure ((rg k.toNat).map Enc.e) := v_rg hk'.1 (by omega)
    refine ⟨_, [.d (eL a), .d (eL b), .d (.int k), t3], rfl, ?_, _, _, rfl⟩
    show b_is_finer_2 [.d (eL a), .d (eL b), .d (.int k), s3] = _
    unfold b_is_finer_2
    simp [hr]
    rw [e]
    simp)
  have hq : ((rg a.length).all fun k => (rg k.toNat).all (fun j => !(decide (at0 a k = at0 a j) && !decide (at0 b k = at0 b j)))) = finB a b := by
    rw [Bool.eq_iff_iff]
    unfold finB
    simp only [List.all_eq_true]
    constructor
    · intro z p hp
      have hp' := pairsT_mem.mp hp
      have := z p.2 (rg_mem.mpr ⟨by omega, by omega⟩) p.1 (rg_mem.mpr ⟨by omega, by omega⟩)
      unfold sm
      rw [show decide (at0 a p.1 = at0 a p.2) = decide (at0 a p.2 = at0 a p.1) from decide_eq_decide.mpr eq_comm, show decide (at0 b p.1 = at0 b p.2) = decide (at0 b p.2 = at0 b p.1) from decide_eq_decide.mpr eq_comm]
      exact this
    · intro z k hk j hj
      have hk' := rg_mem.mp hk
      have hj' := rg_mem.mp hj
      have := z (j, k) (pairsT_mem.mpr ⟨by omega, by show j < k; omega, by omega⟩)
      unfold sm at this
      rw [show decide (at0 a k = at0 a j) = decide (at0 a j = at0 a k) from decide_eq_decide.mpr eq_comm, show decide (at0 b k = at0 b j) = decide (at0 b j = at0 b k) from decide_eq_decide.mpr eq_comm]
      exact this
  rw [hq] at e
  simp [m_is_finer, f_is_finer, hn]
  rw [e]
  cases finB a b <;> simp
theorem finer_ok {a b : List Int} (ha : isG a = true) (hb : isG b = true) (h : b.length = a.length) : m_finer [eL a, eL b] = M.pure (.bool (finB a b)) := by
  have := isG_len ha
  simp [m_finer, f_finer, check_both_ok ha hb h, is_finer_ok (a := a) (b := b) (by omega) h]
end Pg

set_option maxHeartbeats 4000000
/-! What the wishes compute. -/
namespace Pg
open PySem PySem.Spec PyProof.Rows L2 DL
/-- pairs of two things -/
def okP (n : Nat) (L : List (Int × Int)) : Prop := ∀ p ∈ L, ((0 ≤ p.1 ∧ p.1 < n) ∧ 0 ≤ p.2 ∧ p.2 < n) ∧ p.1 ≠ p.2
theorem okP_L {n : Nat} {L : List (Int × Int)} (h : okP n L) : okL n L := fun p hp => (h p hp).1
theorem kIx_ok {xs : List Int} {n : Nat} (hl : xs.length = n) {L : List (Int × Int)} (h : okL n L) {p : Int × Int} (hp : p ∈ L) : kIx (eL xs) (.int p.1) = M.pure (.int (at0 xs p.1)) ∧ kIx (eL xs) (.int p.2) = M.pure (.int (at0 xs p.2)) := by
  have := h p hp
  exact ⟨v_ixI (by omega) (by omega), v_ixI (by omega) (by omega)⟩
theorem check_pairs_ok {n : Nat} {L : List (Int × Int)} (h : okP n L) (hl : L.length ≤ 21) : m_check_pairs [.int (n : Nat), eL L] = M.pure .none := by
  obtain ⟨ρ', e, -⟩ := v_forL (t := .nm 2) (body := b_check_pairs_1) (fun (_ : Unit) ρ => ∃ s2 s3, ρ = [.d (.int (n : Nat)), .d (eL L), s2, s3]) Enc.e (fun _ _ => ()) L () [.d (.int (n : Nat)), .d (eL L), .un, .un] ⟨_, _, rfl⟩ (by
    rintro p hp _ ρ ⟨s2, s3, rfl⟩
    obtain ⟨⟨h1, h2⟩, h3⟩ := h p hp
    refine ⟨_, [.d (.int (n : Nat)), .d (eL L), .d (.tuple [.int p.1, .int p.2]), s3], rfl, ?_, _, _, rfl⟩
    show b_check_pairs_1 [.d (.int (n : Nat)), .d (eL L), .d (.tuple [.int p.1, .int p.2]), s3] = _
    have c : compF [.d (.int (n : Nat)), .d (eL L), .d (.tuple [.int p.1, .int p.2]), .un] (.nm 3) xYes (xCall m_is_int (xCons (xVar 3) (xCons (xC (.int 0)) (xCons (x2 kSub (xVar 0) (xC (.int 1))) xNil)))) [.int p.1, .int p.2] [] = M.pure (eL [true, true]) := by
      have d1 : decide (0 ≤ p.1 ∧ p.1 ≤ (n : Int) - 1) = true := decide_eq_true (by omega)
      have d2 : decide (0 ≤ p.2 ∧ p.2 ≤ (n : Int) - 1) = true := decide_eq_true (by omega)
      have hm := v_map (t := .nm 3) (ρ1 := [.d (.int (n : Nat)), .d (eL L), .d (.tuple [.int p.1, .int p.2]), .un]) (fe := xCall m_is_int (xCons (xVar 3) (xCons (xC (.int 0)) (xCons (x2 kSub (xVar 0) (xC (.int 1))) xNil)))) (Enc.e : Int → D) (fun x => .bool (decide (0 ≤ x ∧ x ≤ (n : Int) - 1))) [p.1, p.2] (fun x hx => ⟨_, rfl, by simp [is_int_ok]⟩)
      rw [List.map_cons, List.map_cons, List.map_nil, List.map_cons, List.map_cons, List.map_nil, d1, d2] at hm
      exact hm
    have a : asS (.tuple [.int p.1, .int p.2]) = M.pure [.int p.1, .int p.2] := rfl
    have i0 : kIx (.tuple [.int p.1, .int p.2]) (.int 0) = M.pure (.int p.1) := rfl
    have i1 : kIx (.tuple [.int p.1, .int p.2]) (.int 1) = M.pure (.int p.2) := rfl
    simp [b_check_pairs_1, a, c, i0, i1, h3])
  simp [m_check_pairs, f_check_pairs, e]
  omega
theorem check_wishes_ok {n : Nat} (h0 : 1 ≤ n) (h1 : n ≤ 7) {L K : List (Int × Int)} (h : okP n L) (hl : L.length ≤ 21) (k : okP n K) (kl : K.length ≤ 21) : m_check_wishes [.int (n : Nat), eL L, eL K] = M.pure .none := by
  simp [m_check_wishes, f_check_wishes, check_size_ok h0 h1, check_pairs_ok h hl, check_pairs_ok k kl]
theorem chained_ok {n : Nat} {L : List (Int × Int)} (h1 : n ≤ 1000) (hL : okL n L) : m_chained [.int (n : Nat), eL L] = M.pure (eL (linkT n L)) := by
  have hn : kRg (.int (n : Nat)) = M.pure ((rg n).map Enc.e) := kRg_n (by omega)
  have mid : ∀ (fd : List Int) (j3 j4 j5 j6 : DL.Slot), fd.length = n → ∃ ρ', forF (.tp [4, 5]) b_chained_1 (L.map Enc.e) [.d (.int (n : Nat)), .d (eL L), .own (fd.map Enc.e), j3, j4, j5, j6] = S.nx ρ' ∧
      ∃ j4 j5 j6, ρ' = [.d (.int (n : Nat)), .d (eL L), .own ((sweepC L fd).map Enc.e), j3, j4, j5, j6] ∧ (sweepC L fd).length = n := by
    intro fd j3 j4 j5 j6 hfd
    refine v_forL (fun fd ρ => ∃ j4 j5 j6, ρ = [.d (.int (n : Nat)), .d (eL L), .own (fd.map Enc.e), j3, j4, j5, j6] ∧ fd.length = n) Enc.e stepC L fd _ ⟨_, _, _, rfl, hfd⟩ ?_
    rintro p hp fd ρ ⟨j4, j5, j6, rfl, hl⟩
    have hh := hL p hp
    have e := put_low (ρ := [.d (.int (n : Nat)), .d (eL L), .own (fd.map Enc.e), j3, .d (.int p.1), .d (.int p.2), j6]) (fd := fd) (k := p.1) (j := p.2) (by simp) rfl rfl rfl (rg_mem.mpr (by omega)) (rg_mem.mpr (by omega))
    exact ⟨_, _, rfl, e, _, _, _, rfl, by rw [stepC_len]; exact hl⟩
  have outer : ∀ (t : Nat) (ts : List Int) (fd : List Int) (j3 j4 j5 j6 : DL.Slot), ts.length = t → fd.length = n → ∃ k3 k4 k5 k6, forF (.nm 3) b_chained_2 (ts.map Enc.e) [.d (.int (n : Nat)), .d (eL L), .own (fd.map Enc.e), j3, j4, j5, j6] = S.nx
      [.d (.int (n : Nat)), .d (eL L), .own ((roundsC L t fd).map Enc.e), k3, k4, k5, k6] := by
    intro t
    induction t with
    | zero =>
      intro ts fd j3 j4 j5 j6 ht hfd
      cases ts with
      | nil => exact ⟨_, _, _, _, rfl⟩
      | cons x xs => cases ht
    | succ t ih =>
      intro ts fd j3 j4 j5 j6 ht hfd
      cases ts with
      | nil => cases ht
      | cons x xs =>
        obtain ⟨ρ', e, j4', j5', j6', rfl, hl'⟩ := mid fd (.d (.int x)) j4 j5 j6 hfd
        obtain ⟨k3, k4, k5, k6, e2⟩ := ih xs (sweepC L fd) (.d (.int x)) j4' j5' j6' (by simpa using ht) hl'
        refine ⟨k3, k4, k5, k6, ?_⟩
        rw [List.map_cons, for_cons (ρ1 := [.d (.int (n : Nat)), .d (eL L), .own (fd.map Enc.e), .d (.int x), j4, j5, j6]) rfl (by unfold b_chained_2; simp; exact e)]
        exact e2
  obtain ⟨j3, j4, j5, j6, e⟩ := outer n (rg n) (rg n) .un .un .un .un (rg_len _) (rg_len _)
  have hl : kLstRg (.int (n : Nat)) = M.pure (eL (rg n)) := kLstRg_n (by omega)
  simp [m_chained, f_chained, hl, hn]
  rw [e]
  simp
  rw [v_frz rfl]
  simp
  rw [numbered_ok (by rw [roundsC_len, rg_len]; omega)]
  simp [linkT]
theorem chains_ok {n : Nat} (h0 : 1 ≤ n) (h1 : n ≤ 7) {L : List (Int × Int)} (h : okP n L) (hl : L.length ≤ 21) : m_chains [.int (n : Nat), eL L] = M.pure (eL (linkT n L)) := by
  simp [m_chains, f_chains, check_size_ok h0 h1, check_pairs_ok h hl, chained_ok (n := n) (by omega) (okP_L h)]
/-- a list of truths, of a row and pairs -/
theorem pairs_bools {row : List Int} {n : Nat} (hl : row.length = n) {L : List (Int × Int)} (h : okL n L) {ρ1 : List DL.Slot} {fe1 fe2 : X D} {i j : Nat} (hi : ∀ p : Int × Int, fe1 ((ρ1.set i (.d (.int p.1))).set j (.d (.int p.2))) = kIx (eL row) (.int p.1)) (hj : ∀ p : Int × Int, fe2 ((ρ1.set i (.d (.int p.1))).set j (.d (.int p.2))) = kIx (eL row) (.int p.2)) :
    compF ρ1 (.tp [i, j]) xYes (x2 kEq fe1 fe2) (L.map Enc.e) [] = M.pure (eL (L.map (sm row))) ∧ compF ρ1 (.tp [i, j]) xYes (x2 kNe fe1 fe2) (L.map Enc.e) [] = M.pure (eL (L.map fun p => !sm row p)) := by
  constructor
  · rw [v_map Enc.e (fun p => .bool (sm row p)) _ ?_]
    · unfold eL
      rw [List.map_map]
      rfl
    · intro p hp
      obtain ⟨k1, k2⟩ := kIx_ok hl h hp
      exact ⟨_, set_pair _ _ _ p, by simp [hi, hj, k1, k2]; rfl⟩
  · rw [v_map Enc.e (fun p => .bool (!sm row p)) _ ?_]
    · unfold eL
      rw [List.map_map]
      rfl
    · intro p hp
      obtain ⟨k1, k2⟩ := kIx_ok hl h hp
      exact ⟨_, set_pair _ _ _ p, by simp [hi, hj, k1, k2]; rfl⟩
theorem all_map {α : Type} (f : α → Bool) (xs : List α) : (xs.map f).all id = xs.all f := by rw [List.all_map]; rfl
theorem can_be_ok {n : Nat} (h0 : 1 ≤ n) (h1 : n ≤ 7) {L K : List (Int × Int)} (h : okP n L) (hl : L.length ≤ 21) (k : okP n K) (kl : K.length ≤ 21) : m_can_be [.int (n : Nat), eL L, eL K] = M.pure (.bool (K.all fun p => !sm (linkT n L) p)) := by
  have c := (pairs_bools (row := linkT n L) (linkT_len n L) (okP_L k) (ρ1 := [.d (.int (n : Nat)), .d (eL L), .d (eL K), .d (eL (linkT n L)), .un, .un]) (i := 4) (j := 5) (fe1 := x2 kIx (xVar 3) (xVar 4)) (fe2 := x2 kIx (xVar 3) (xVar 5)) (fun p => by simp) (fun p => by simp)).2
  simp only [m_can_be, f_can_be, v_runF, List.map_cons, List.map_nil, List.length_cons, List.length_nil, List.replicate, List.cons_append, List.nil_append, v_sSeq, v_sDrop, v_xCall, v_xCons, v_xNil, v_varS, v_var0, v_bind_pure, check_wishes_ok h0 h1 h hl k kl, v_bindS_pure, v_seq_nx, v_sSet, chained_ok (n := n) (by omega) (okP_L h), List.set_cons_succ, List.set_cons_zero, v_sRet, v_xLc, v_xIt, v_lAsL, v_wipe1, v_wipe0, c, v_nerr_pure, DL.v_all, all_map, v_run_ret]
/-- pairs of the wishes, those told -/
theorem pairs_some {row : List Int} {n : Nat} (hl : row.length = n) {L : List (Int × Int)} (h : okL n L) {ρ1 : List DL.Slot} {fe1 fe2 fv : X D} {i j : Nat} (hi : ∀ p : Int × Int, fe1 ((ρ1.set i (.d (.int p.1))).set j (.d (.int p.2))) = kIx (eL row) (.int p.1)) (hj : ∀ p : Int × Int, fe2 ((ρ1.set i (.d (.int p.1))).set j (.d (.int p.2))) = kIx (eL row) (.int p.2))
    (hv : ∀ p : Int × Int, fv ((ρ1.set i (.d (.int p.1))).set j (.d (.int p.2))) = M.pure (.tuple [.int p.1, .int p.2])) :
    compF ρ1 (.tp [i, j]) (xT (x2 kEq fe1 fe2)) fv (L.map Enc.e) [] = M.pure (eL (L.filter (sm row))) ∧ compF ρ1 (.tp [i, j]) (xT (x2 kNe fe1 fe2)) fv (L.map Enc.e) [] = M.pure (eL (L.filter fun p => !sm row p)) := by
  constructor
  · rw [v_filter Enc.e (sm row) Enc.e _ ?_]
    · rfl
    · intro p hp
      obtain ⟨k1, k2⟩ := kIx_ok hl h hp
      exact ⟨_, set_pair _ _ _ p, by simp [hi, hj, k1, k2]; rfl, fun _ => hv p⟩
  · rw [v_filter Enc.e (fun p => !sm row p) Enc.e _ ?_]
    · rfl
    · intro p hp
      obtain ⟨k1, k2⟩ := kIx_ok hl h hp
      exact ⟨_, set_pair _ _ _ p, by simp [hi, hj, k1, k2]; rfl, fun _ => hv p⟩
/-- the first of them, or none -/
def firstD (xs : List (Int × Int)) : D := match xs with | [] => .none | p :: _ => .tuple [.int p.1, .int p.2]
theorem firstD_ok {xs : List (Int × Int)} : (if !decide (xs = []) then kIx (eL xs) (.int 0) else M.pure PyData.none) = M.pure (firstD xs) := by
  cases xs with
  | nil => rfl
  | cons p r => exact v_ix0 p r
theorem first_against_ok {n : Nat} (h0 : 1 ≤ n) (h1 : n ≤ 7) {L K : List (Int × Int)} (h : okP n L) (hl : L.length ≤ 21) (k : okP n K) (kl : K.length ≤ 21) : m_first_against [.int (n : Nat), eL L, eL K] = M.pure (firstD (K.filter (sm (linkT n L)))) := by
  have c := (pairs_some (row := linkT n L) (linkT_len n L) (okP_L k) (ρ1 := [.d (.int (n : Nat)), .d (eL L), .d (eL K), .d (eL (linkT n L)), .un, .un, .un]) (i := 5) (j := 6) (fe1 := x2 kIx (xVar 3) (xVar 5)) (fe2 := x2 kIx (xVar 3) (xVar 6)) (fv := xTup (xCons (xVar 5) (xCons (xVar 6) xNil))) (fun p => by simp) (fun p => by simp) (fun p => by simp)).1
  have f := firstD_ok (xs := K.filter (sm (linkT n L)))
  simp only [m_first_against, f_first_against, v_runF, List.map_cons, List.map_nil, List.length_cons, List.length_nil, List.replicate, List.cons_append, List.nil_append, v_sSeq, v_sDrop, v_xCall, v_xCons, v_xNil, v_varS, v_var0, v_bind_pure, check_wishes_ok h0 h1 h hl k kl, v_bindS_pure, v_seq_nx, v_sSet, chained_ok (n := n) (by omega) (okP_L h), List.set_cons_succ, List.set_cons_zero, v_sRet, v_xLc, v_xIt, v_lAsL, v_wipe1, v_wipe0, c, v_nerr_pure, v_xIf, v_xT, v_x2, v_xLst, v_lNe0, v_asB, v_C, f, v_run_ret]
/-- the groupings that fit -/
def fitB (L K : List (Int × Int)) (row : List Int) : Bool := L.all (sm row) && K.all fun p => !sm row p
def fitT (n : Nat) (L K : List (Int × Int)) : List (List Int) := (rgs n).filter (fitB L K)
theorem fitting_ok {n : Nat} (h0 : 1 ≤ n) (h1 : n ≤ 7) {L K : List (Int × Int)} (h : okL n L) (k : okL n K) : m_fitting [.int (n : Nat), eL L, eL K] = M.pure (eL (fitT n L K)) := by
  have hb : ∀ row ∈ rgs n, ∀ (acc : List (List Int)), acc.length ≤ 90000 → b_fitting_1 [.d (.int (n : Nat)), .d (eL L), .d (eL K), .own (acc.map Enc.e), .d (eL row), .un, .un] =
      S.nx [.d (.int (n : Nat)), .d (eL L), .d (eL K), .own ((acc ++ if fitB L K row then [row] else []).map Enc.e), .d (eL row), .un, .un] := by
    intro row hr acc ha
    obtain ⟨g, hl7⟩ := rgs_isG h0 h1 hr
    have c1 := (pairs_bools hl7 h (ρ1 := [.d (.int (n : Nat)), .d (eL L), .d (eL K), .own (acc.map Enc.e), .d (eL row), .un, .un]) (i := 5) (j := 6) (fe1 := x2 kIx (xVar 4) (xVar 5)) (fe2 := x2 kIx (xVar 4) (xVar 6)) (fun p => by simp) (fun p => by simp)).1
    have c2 := (pairs_bools hl7 k (ρ1 := [.d (.int (n : Nat)), .d (eL L), .d (eL K), .own (acc.map Enc.e), .d (eL row), .un, .un]) (i := 5) (j := 6) (fe1 := x2 kIx (xVar 4) (xVar 5)) (fe2 := x2 kIx (xVar 4) (xVar 6)) (fun p => by simp) (fun p => by simp)).2
    simp only [b_fitting_1, v_sIf, v_xAnd, v_xT, v_xCall, v_xCons, v_xNil, v_xLc, v_xIt, v_varS, v_var0, v_bind_pure, v_lAsL, v_wipe1, v_wipe0, List.set_cons_succ, List.set_cons_zero, c1, c2, v_nerr_pure, DL.v_all, all_map, v_asB]
    unfold fitB
    cases L.all (sm row) with
    | false => simp
    | true =>
      cases K.all fun p => !sm row p with
      | false => simp
      | true =>
        simp
        rw [v_app rfl (by rw [List.length_map]; omega)]
        simp
  obtain ⟨ρ', e2, j4, rfl⟩ := v_forApp (t := .nm 4) (body := b_fitting_1) (fun (acc : List (List Int)) ρ => ∃ j4, ρ = [.d (.int (n : Nat)), .d (eL L), .d (eL K), .own (acc.map Enc.e), j4, .un, .un]) Enc.e
    (fun row => if fitB L K row then [row] else []) (rgs n) [] [.d (.int (n : Nat)), .d (eL L), .d (eL K), .own [], .un, .un, .un] ⟨_, rfl⟩ (by
      rw [List.nil_append, flatMap_filter]
      have h2 := rgs_len7 n h0 h1
      have h3 := List.length_filter_le (fitB L K) (rgs n)
      omega) (by
      rintro row hr acc ρ ⟨j3, rfl⟩ hl
      exact ⟨_, _, rfl, .inl (hb row hr acc (by rw [List.length_append] at hl; omega)), _, rfl⟩)
  rw [List.nil_append, flatMap_filter] at e2
  simp [m_fitting, f_fitting, rows_of_ok h0 h1, e2]
  rw [v_frz rfl]
  simp [fitT]
section
variable {n : Nat} {L K : List (Int × Int)}
theorem all_fitting_ok (h0 : 1 ≤ n) (h1 : n ≤ 7) (h : okP n L) (hl : L.length ≤ 21) (k : okP n K) (kl : K.length ≤ 21) : m_all_fitting [.int (n : Nat), eL L, eL K] = M.pure (eL (fitT n L K)) := by
  simp [m_all_fitting, f_all_fitting, check_wishes_ok h0 h1 h hl k kl, fitting_ok h0 h1 (okP_L h) (okP_L k)]
theorem fitT_mem {row : List Int} : row ∈ fitT n L K ↔ row ∈ rgs n ∧ fitB L K row = true := List.mem_filter
theorem max_map {ρ1 : List DL.Slot} {i : Nat} {rows : List (List Int)} (h0 : 1 ≤ n) (h1 : n ≤ 7) (hr : ∀ row ∈ rows, row ∈ rgs n) (hi : ∀ row : List Int, xVar i (ρ1.set i (.d (eL row))) = M.pure (eL row)) :
    compF ρ1 (.nm i) xYes (x2 kAdd (xCall kMax (xCons (xVar i) xNil)) (xC (.int 1))) (rows.map Enc.e) [] = M.pure (eL (rows.map fun row => maxI row + 1)) := by
  rw [v_map Enc.e (fun row => .int (maxI row + 1)) _ ?_]
  · unfold eL
    rw [List.map_map]
    rfl
  · intro row hx
    exact ⟨_, rfl, by simp [hi, kMax_G (rgs_isG h0 h1 (hr row hx)).1]⟩
theorem fewest_groups_ok (h0 : 1 ≤ n) (h1 : n ≤ 7) (h : okP n L) (hl : L.length ≤ 21) (k : okP n K) (kl : K.length ≤ 21) :
    m_fewest_groups [.int (n : Nat), eL L, eL K] = if fitT n L K = [] then M.err "NotFound" else M.pure (.int (minI ((fitT n L K).map fun row => maxI row + 1))) := by
  simp only [m_fewest_groups, f_fewest_groups, v_runF, List.map_cons, List.map_nil, List.length_cons, List.length_nil, List.replicate, List.cons_append, List.nil_append, v_sSeq, v_sDrop, v_xCall, v_xCons, v_xNil, v_varS, v_var0, v_bind_pure, check_wishes_ok h0 h1 h hl k kl, v_bindS_pure, v_seq_nx, v_sSet, fitting_ok h0 h1 (okP_L h) (okP_L k), List.set_cons_succ, List.set_cons_zero, v_sIf, v_xT, v_x2, v_xLst, v_lEq0, v_asB]
  by_cases z : fitT n L K = []
  · simp [z]
  · have c := max_map (n := n) (rows := fitT n L K) (ρ1 := [.d (.int (n : Nat)), .d (eL L), .d (eL K), .d (eL (fitT n L K)), .un]) (i := 4) h0 h1 (fun row hr => (fitT_mem.mp hr).1) (fun row => by simp)
    have m := kMin_l (ns := (fitT n L K).map fun row => maxI row + 1) (by rw [List.length_map]; exact List.length_pos_iff.mpr z)
    simp [z, c, m, -List.map_map]
/-- pairs for which all rows say so -/
theorem pairs_all {rows : List (List Int)} (hr : ∀ row ∈ rows, row.length = n) (f : List Int → Int × Int → Bool) {ρ1 : List DL.Slot} {fa : X D} {fv : X D} {i j : Nat} (hv : ∀ p : Int × Int, fv ((ρ1.set i (.d (.int p.1))).set j (.d (.int p.2))) = M.pure (.tuple [.int p.1, .int p.2]))
    (ha : ∀ p ∈ pairsT n, fa ((ρ1.set i (.d (.int p.1))).set j (.d (.int p.2))) = M.pure (eL (rows.map fun row => f row p))) :
    compF ρ1 (.tp [i, j]) (xT (xCall kAll (xCons fa xNil))) fv ((pairsT n).map Enc.e) [] = M.pure (eL ((pairsT n).filter fun p => rows.all fun row => f row p)) := by
  rw [v_filter Enc.e (fun p => rows.all fun row => f row p) Enc.e _ ?_]
  · rfl
  · intro p hp
    refine ⟨_, set_pair _ _ _ p, ?_, fun _ => hv p⟩
    simp only [v_xT, v_xCall, v_xCons, v_xNil, ha p hp, v_bind_pure, DL.v_all, all_map, v_asB]
def sureT (n : Nat) (R : List (List Int)) : List (Int × Int) := (pairsT n).filter fun p => R.all fun row => sm row p
def neverT (n : Nat) (R : List (List Int)) : List (Int × Int) := (pairsT n).filter fun p => R.all fun row => !sm row p
theorem sure_pairs_ok (h0 : 1 ≤ n) (h1 : n ≤ 7) (h : okP n L) (hl : L.length ≤ 21) (k : okP n K) (kl : K.length ≤ 21) :
    m_sure_pairs [.int (n : Nat), eL L, eL K] = if fitT n L K = [] then M.err "NotFound" else M.pure (.tuple [eL (sureT n (fitT n L K)), eL (neverT n (fitT n L K))]) := by
  simp only [m_sure_pairs, f_sure_pairs, v_runF, List.map_cons, List.map_nil, List.length_cons, List.length_nil, List.replicate, List.cons_append, List.nil_append, v_sSeq, v_sDrop, v_xCall, v_xCons, v_xNil, v_varS, v_var0, v_bind_pure, check_wishes_ok h0 h1 h hl k kl, v_bindS_pure, v_seq_nx, v_sSet, fitting_ok h0 h1 (okP_L h) (okP_L k), List.set_cons_succ, List.set_cons_zero, v_sIf, v_xT, v_x2, v_xLst, v_lEq0, v_asB]
  by_cases z : fitT n L K = []
  · simp [z]
  · have hr : ∀ row ∈ fitT n L K, row.length = n := fun row hx => (rgs_mem n row (fitT_mem.mp hx).1).1
    generalize hR : fitT n L K = R at *
    have inner : ∀ (ρ1 : List DL.Slot) (q : Int × Int), q ∈ pairsT n → (∀ row : List Int, xVar 8 (ρ1.set 8 (.d (eL row))) = M.pure (eL row)) → (∀ row : List Int, xVar 6 (ρ1.set 8 (.d (eL row))) = M.pure (.int q.1)) → (∀ row : List Int, xVar 7 (ρ1.set 8 (.d (eL row))) = M.pure (.int q.2)) →
        compF ρ1 (.nm 8) xYes (x2 kEq (x2 kIx (xVar 8) (xVar 6)) (x2 kIx (xVar 8) (xVar 7))) (R.map Enc.e) [] = M.pure (eL (R.map fun row => sm row q)) ∧
        compF ρ1 (.nm 8) xYes (x2 kNe (x2 kIx (xVar 8) (xVar 6)) (x2 kIx (xVar 8) (xVar 7))) (R.map Enc.e) [] = M.pure (eL (R.map fun row => !sm row q)) := by
      intro ρ1 q hq v8 v6 v7
      constructor
      · rw [v_map Enc.e (fun row => .bool (sm row q)) _ ?_]
        · unfold eL; rw [List.map_map]; rfl
        · intro row hx
          obtain ⟨k1, k2⟩ := kIx_pair (hr row hx) hq
          exact ⟨_, rfl, by simp [v8, v6, v7, k1, k2]; rfl⟩
      · rw [v_map Enc.e (fun row => .bool (!sm row q)) _ ?_]
        · unfold eL; rw [List.map_map]; rfl
        · intro row hx
          obtain ⟨k1, k2⟩ := kIx_pair (hr row hx) hq
          exact ⟨_, rfl, by simp [v8, v6, v7, k1, k2]; rfl⟩
    have c1 := pairs_all hr (fun row p => sm row p) (ρ1 := [.d (.int (n : Nat)), .d (eL L), .d (eL K), .d (eL R), .d (eL (pairsT n)), .un, .un, .un, .un]) (i := 6) (j := 7) (fa := xLc [8] (.nm 8) (xIt asL (xVar 3)) xYes (x2 kEq (x2 kIx (xVar 8) (xVar 6)) (x2 kIx (xVar 8) (xVar 7)))) (fv := xTup (xCons (xVar 6) (xCons (xVar 7) xNil))) (fun p => by simp) (fun p hp => by
      have := (inner [.d (.int (n : Nat)), .d (eL L), .d (eL K), .d (eL R), .d (eL (pairsT n)), .un, .d (.int p.1), .d (.int p.2), .un] p hp (fun _ => by simp) (fun _ => by simp) (fun _ => by simp)).1
      simp [this])
    have c2 := pairs_all hr (fun row p => !sm row p) (ρ1 := [.d (.int (n : Nat)), .d (eL L), .d (eL K), .d (eL R), .d (eL (pairsT n)), .d (eL (sureT n R)), .un, .un, .un]) (i := 6) (j := 7) (fa := xLc [8] (.nm 8) (xIt asL (xVar 3)) xYes (x2 kNe (x2 kIx (xVar 8) (xVar 6)) (x2 kIx (xVar 8) (xVar 7)))) (fv := xTup (xCons (xVar 6) (xCons (xVar 7) xNil))) (fun p => by simp) (fun p hp => by
      have := (inner [.d (.int (n : Nat)), .d (eL L), .d (eL K), .d (eL R), .d (eL (pairsT n)), .d (eL (sureT n R)), .d (.int p.1), .d (.int p.2), .un] p hp (fun _ => by simp) (fun _ => by simp) (fun _ => by simp)).2
      simp [this])
    change _ = M.pure (eL (sureT n R)) at c1
    change _ = M.pure (eL (neverT n R)) at c2
    simp only [z, decide_false, Bool.false_eq_true, if_false, v_sNx, v_seq_nx, v_sSeq, v_sSet, v_xCall, all_pairs_ok h0 h1, v_bind_pure, v_bindS_pure, List.set_cons_succ, List.set_cons_zero, v_xLc, v_xIt, v_varS, v_var0, v_lAsL, v_wipe1, v_wipe0, c1, c2, v_nerr_pure, v_sRet, v_xTup, v_xCons, v_xNil, v_run_ret]
end
end Pg

/-! What shortest_chain computes. -/
namespace Pg
open PySem PySem.Spec PyProof.Rows L2 DL
section
variable {n : Nat} {L : List (Int × Int)} {a last : Int} {rows : List (List Int)} {row : List Int}
theorem inPair (u v : Int) : kIn (.tuple [.int u, .int v]) (eL L) = M.pure (.bool (decide ((u, v) ∈ L))) := (v_in (u, v) L).trans (congrArg (fun b => M.pure (PyData.bool b)) (decide_eq_decide.mpr Iff.rfl))
theorem ix_last (h : 0 < row.length) : kIx (eL row) (.int (-1)) = M.pure (.int (lastI row)) := v_ixNeg (by omega) (by omega)
def stB (n : Nat) (L : List (Int × Int)) (a last : Int) (rows : List (List Int)) (s : List Int) (x6 x7 x8 x9 : DL.Slot) : List DL.Slot := [.d (.int (n : Nat)), .d (eL L), .d (.int a), .d (.int last), .d (eL rows), .own (s.map Enc.e), x6, x7, x8, x9]
theorem inner_ok (h7 : n ≤ 7) (hr : row ∈ rows) (x6 : DL.Slot) : ∀ {st : List Int × List (List Int)} (x9 : DL.Slot), Jb n rows st →
    ∃ ρ', forF (.nm 9) b_shortest_chain_1 ((rg n).map Enc.e) (stB n L a last rows st.1 x6 (.own (st.2.map Enc.e)) (.d (eL row)) x9) = S.nx ρ' ∧
      ∃ y9, ρ' = stB n L a last rows ((rg n).foldl (stepB L row) st).1 x6 (.own (((rg n).foldl (stepB L row) st).2.map Enc.e)) (.d (eL row)) y9 ∧ Jb n rows ((rg n).foldl (stepB L row) st) := by
  intro st x9 j
  refine v_for (fun st ρ => ∃ y9, ρ = stB n L a last rows st.1 x6 (.own (st.2.map Enc.e)) (.d (eL row)) y9 ∧ Jb n rows st) Enc.e (stepB L row) (rg n) st _ ⟨x9, rfl, j⟩ ?_
  rintro x hx st ρ ⟨y9, rfl, j⟩
  have hl := j.len
  obtain ⟨k1, k2⟩ := okRow_len (j.r row hr) j.nd
  have il := ix_last k1
  have hj := jb_step (L := L) j hr hx
  by_cases hc : x ∉ st.1 ∧ eB L (lastI row) x
  · have es : stepB L row st x = (st.1 ++ [x], st.2 ++ [row ++ [x]]) := by unfold stepB; rw [if_pos hc]
    refine ⟨_, stB n L a last rows (st.1 ++ [x]) x6 (.own ((st.2 ++ [row ++ [x]]).map Enc.e)) (.d (eL row)) (.d (.int x)), rfl, .inl ?_, .d (.int x), by rw [es], hj⟩
    have ea : kAdd (eL row) (.list [.int x]) = M.pure (eL (row ++ [x])) := DL.v_add (xs := row) (ys := [x]) (by simp; omega)
    have c1 : ¬ x ∈ st.1 := hc.1
    have c2 : (lastI row, x) ∈ L ∨ (x, lastI row) ∈ L := hc.2
    have l2 : st.2.length ≤ st.1.length := j.le
    show b_shortest_chain_1 (stB n L a last rows st.1 x6 (.own (st.2.map Enc.e)) (.d (eL row)) (.d (.int x))) = _
    have t1 : sApp 5 (xVar 9) (stB n L a last rows st.1 x6 (.own (st.2.map Enc.e)) (.d (eL row)) (.d (.int x))) = S.nx (stB n L a last rows (st.1 ++ [x]) x6 (.own (st.2.map Enc.e)) (.d (eL row)) (.d (.int x))) := by
      rw [v_app (xs := st.1.map Enc.e) rfl (by rw [List.length_map]; omega)]
      simp [stB]
    have t2 : sApp 7 (x2 kAdd (xVar 8) (xLst (xCons (xVar 9) xNil))) (stB n L a last rows (st.1 ++ [x]) x6 (.own (st.2.map Enc.e)) (.d (eL row)) (.d (.int x))) = S.nx (stB n L a last rows (st.1 ++ [x]) x6 (.own ((st.2 ++ [row ++ [x]]).map Enc.e)) (.d (eL row)) (.d (.int x))) := by
      rw [v_app (xs := st.2.map Enc.e) rfl (by rw [List.length_map]; omega)]
      simp [stB, ea]
    have tq : (xAnd (xT (x2 kNotIn (xVar 9) (xPeek 5))) (xOr (xT (x2 kIn (xTup (xCons (x2 kIx (xVar 8) (x1 kNeg (xC (.int 1)))) (xCons (xVar 9) xNil))) (xVar 1))) (xT (x2 kIn (xTup (xCons (xVar 9) (xCons (x2 kIx (xVar 8) (x1 kNeg (xC (.int 1)))) xNil))) (xVar 1))))) (stB n L a last rows st.1 x6 (.own (st.2.map Enc.e)) (.d (eL row)) (.d (.int x))) = M.pure true := by
      rcases c2 with c2 | c2
      · simp [stB, il, inPair, c1, c2]
      · by_cases c3 : (lastI row, x) ∈ L
        · simp [stB, il, inPair, c1, c3]
        · simp [stB, il, inPair, c1, c2, c3]
    unfold b_shortest_chain_1
    rw [v_sIf, tq, v_bindS_pure, if_pos rfl, v_sSeq, t1, v_seq_nx, t2]
  · have es : stepB L row st x = st := by unfold stepB; rw [if_neg hc]
    rw [es] at hj
    refine ⟨_, stB n L a last rows st.1 x6 (.own (st.2.map Enc.e)) (.d (eL row)) (.d (.int x)), rfl, .inl ?_, .d (.int x), by rw [es], by rw [es]; exact hj⟩
    show b_shortest_chain_1 (stB n L a last rows st.1 x6 (.own (st.2.map Enc.e)) (.d (eL row)) (.d (.int x))) = _
    have tq : (xAnd (xT (x2 kNotIn (xVar 9) (xPeek 5))) (xOr (xT (x2 kIn (xTup (xCons (x2 kIx (xVar 8) (x1 kNeg (xC (.int 1)))) (xCons (xVar 9) xNil))) (xVar 1))) (xT (x2 kIn (xTup (xCons (xVar 9) (xCons (x2 kIx (xVar 8) (x1 kNeg (xC (.int 1)))) xNil))) (xVar 1))))) (stB n L a last rows st.1 x6 (.own (st.2.map Enc.e)) (.d (eL row)) (.d (.int x))) = M.pure false := by
      by_cases c1 : x ∈ st.1
      · simp [stB, c1]
      · have c2 : ¬ ((lastI row, x) ∈ L) := fun z => hc ⟨c1, .inl z⟩
        have c3 : ¬ ((x, lastI row) ∈ L) := fun z => hc ⟨c1, .inr z⟩
        simp [stB, il, inPair, c1, c2, c3]
    unfold b_shortest_chain_1
    rw [v_sIf, tq, v_bindS_pure]
    rfl
theorem mid_ok (h7 : n ≤ 7) (x6 x8 x9 : DL.Slot) {st : List Int × List (List Int)} (j : Jb n rows st) :
    match rows.foldlM (turnT n L last) st with
    | .ok st' => ∃ ρ', forF (.nm 8) b_shortest_chain_2 (rows.map Enc.e) (stB n L a last rows st.1 x6 (.own (st.2.map Enc.e)) x8 x9) = S.nx ρ' ∧ ∃ y8 y9, ρ' = stB n L a last rows st'.1 x6 (.own (st'.2.map Enc.e)) y8 y9 ∧ Jb n rows st'
    | .error d => forF (.nm 8) b_shortest_chain_2 (rows.map Enc.e) (stB n L a last rows st.1 x6 (.own (st.2.map Enc.e)) x8 x9) = S.ret d := by
  have k := v_forE (t := .nm 8) (body := b_shortest_chain_2) (fun st ρ => ∃ y8 y9, ρ = stB n L a last rows st.1 x6 (.own (st.2.map Enc.e)) y8 y9 ∧ Jb n rows st) Enc.e (turnT n L last) rows st (stB n L a last rows st.1 x6 (.own (st.2.map Enc.e)) x8 x9) ⟨x8, x9, rfl, j⟩ ?_
  · cases ef : rows.foldlM (turnT n L last) st with
    | ok st' => rw [ef] at k; exact k
    | error d => rw [ef] at k; exact k
  rintro row hr st ρ ⟨y8, y9, rfl, j⟩
  refine ⟨stB n L a last rows st.1 x6 (.own (st.2.map Enc.e)) (.d (eL row)) y9, rfl, ?_⟩
  obtain ⟨k1, k2⟩ := okRow_len (j.r row hr) j.nd
  have il := ix_last k1
  have hn : kRg (.int (n : Nat)) = M.pure ((rg n).map Enc.e) := kRg_n (by omega)
  unfold turnT
  by_cases e : lastI row = last
  · rw [if_pos e]
    show b_shortest_chain_2 _ = _
    simp [b_shortest_chain_2, stB, il, e]
  · rw [if_neg e]
    obtain ⟨ρ', e2, y, e3, j2⟩ := inner_ok (L := L) (a := a) (last := last) h7 hr x6 y9 j
    refine ⟨ρ', .inl ?_, .d (eL row), y, e3, j2⟩
    unfold stB at e2
    simp [b_shortest_chain_2, stB, il, e, hn]
    exact e2
theorem outer_ok (h7 : n ≤ 7) (zs : List Int) (x6 x7 x8 x9 : DL.Slot) {seen : List Int} (j : Jb n rows (seen, [])) :
    match zs.foldlM (levT n L last) (rows, seen) with
    | .ok st' => ∃ ρ', forF (.nm 6) b_shortest_chain_3 (zs.map Enc.e) (stB n L a last rows seen x6 x7 x8 x9) = S.nx ρ' ∧ ∃ y6 y7 y8 y9, ρ' = stB n L a last st'.1 st'.2 y6 y7 y8 y9 ∧ Jb n st'.1 (st'.2, [])
    | .error d => forF (.nm 6) b_shortest_chain_3 (zs.map Enc.e) (stB n L a last rows seen x6 x7 x8 x9) = S.ret d := by
  have k := v_forE (t := .nm 6) (body := b_shortest_chain_3) (fun (st : List (List Int) × List Int) ρ => ∃ y6 y7 y8 y9, ρ = stB n L a last st.1 st.2 y6 y7 y8 y9 ∧ Jb n st.1 (st.2, [])) Enc.e (levT n L last) zs (rows, seen) (stB n L a last rows seen x6 x7 x8 x9) ⟨x6, x7, x8, x9, rfl, j⟩ ?_
  · cases ef : zs.foldlM (levT n L last) (rows, seen) with
    | ok st' => rw [ef] at k; exact k
    | error d => rw [ef] at k; exact k
  rintro z hz ⟨rows, seen⟩ ρ ⟨y6, y7, y8, y9, rfl, j⟩
  refine ⟨stB n L a last rows seen (.d (.int z)) y7 y8 y9, rfl, ?_⟩
  have m := mid_ok (L := L) (a := a) (last := last) h7 (.d (.int z)) y8 y9 j
  dsimp only at m ⊢
  have st1 : b_shortest_chain_3 (stB n L a last rows seen (.d (.int z)) y7 y8 y9) = seqS (forF (.nm 8) b_shortest_chain_2 (rows.map Enc.e) (stB n L a last rows seen (.d (.int z)) (.own (([] : List (List Int)).map Enc.e)) y8 y9)) (sFrz 7 (sSet 4 (xVar 7))) := by
    simp [b_shortest_chain_3, stB]
  rw [st1]
  unfold levT
  dsimp only
  cases ef : rows.foldlM (turnT n L last) (seen, []) with
  | error d =>
    rw [ef] at m
    dsimp only at m ⊢
    rw [m, v_seq_ret]
  | ok st' =>
    rw [ef] at m
    dsimp only at m ⊢
    obtain ⟨ρ', e1, u8, u9, rfl, j2⟩ := m
    refine ⟨stB n L a last st'.2 st'.1 (.d (.int z)) (.d (eL st'.2)) u8 u9, .inl ?_, _, _, _, _, rfl, ⟨j2.nd, j2.rg, Nat.zero_le _, j2.l, fun r hr => nomatch hr⟩⟩
    rw [e1, v_seq_nx, v_frz (xs := st'.2.map Enc.e) rfl]
    simp [stB]
theorem shortest_ok (h0 : 1 ≤ n) (h7 : n ≤ 7) (h : okP n L) (hl : L.length ≤ 21) (hk : okP n [(a, last)]) : m_shortest_chain [.int (n : Nat), eL L, .int a, .int last] = match bfsT n L a last with
    | .error d => M.pure d
    | .ok _ => M.err "NotFound" := by
  have c1 := check_size_ok h0 h7
  have c2 := check_pairs_ok h hl
  have c3 : m_check_pairs [.int (n : Nat), .list [.tuple [.int a, .int last]]] = M.pure .none := check_pairs_ok hk (by simp)
  have ha := (hk _ List.mem_cons_self).1.1
  have hn : kRg (.int (n : Nat)) = M.pure ((rg n).map Enc.e) := kRg_n (by omega)
  have j0 : Jb n [[a]] ([a], []) := ⟨by simp, fun x hx => by rw [List.mem_singleton.mp hx]; exact rg_mem.mpr ha, Nat.zero_le _, fun r hr => by rw [List.mem_singleton.mp hr]; exact ⟨by simp, by simp, fun x hx => hx⟩, fun r hr => nomatch hr⟩
  have o := outer_ok (L := L) (a := a) (last := last) h7 (rg n) .un .un .un .un j0
  have e1 : m_shortest_chain [.int (n : Nat), eL L, .int a, .int last] = runS (seqS (forF (.nm 6) b_shortest_chain_3 ((rg n).map Enc.e) (stB n L a last [[a]] [a] .un .un .un .un)) (sErr "NotFound")) := by
    simp [m_shortest_chain, f_shortest_chain, c1, c2, c3, hn, stB]
    rfl
  rw [e1]
  unfold bfsT
  cases eb : (rg n).foldlM (levT n L last) ([[a]], [a]) with
  | error d =>
    rw [eb] at o
    dsimp only at o ⊢
    rw [o, v_seq_ret, v_run_ret]
  | ok st =>
    rw [eb] at o
    dsimp only at o ⊢
    obtain ⟨ρ', e2, y6, y7, y8, y9, rfl, _⟩ := o
    rw [e2, v_seq_nx, v_sErr, v_run_err]
end
end Pg

/-! What wishes leave. -/
namespace Pg
open PySem PySem.Spec PyProof.Rows L2 DL
variable {n : Nat} {L K : List (Int × Int)}
theorem link_mem (h0 : 1 ≤ n) (h1 : n ≤ 7) : linkT n L ∈ rgs n := by
  have := isG_rgs_mem (linkT_isG h0 h1 L)
  rwa [linkT_len] at this
theorem link_near (hL : okL n L) : L.all (sm (linkT n L)) = true := by
  rw [List.all_eq_true]
  intro p hp
  have := hL p hp
  exact decide_eq_true ((link_cn hL this.1 this.2).mpr (.one (.inl hp)))
/-- the finest one: what it has together, all that fit have -/
theorem link_least (hL : okL n L) {row : List Int} (h : L.all (sm row) = true) {p : Int × Int} (hp : (0 ≤ p.1 ∧ p.1 < n) ∧ 0 ≤ p.2 ∧ p.2 < n) (e : sm (linkT n L) p = true) : sm row p = true := by
  have c := (link_cn hL hp.1 hp.2).mp (of_decide_eq_true e)
  refine decide_eq_true (c.lift (R := fun i j => at0 row i = at0 row j) (fun _ => rfl) (fun _ _ z => z.symm) (fun _ _ _ y z => y.trans z) fun i j e => ?_)
  exact of_decide_eq_true (List.all_eq_true.mp h (i, j) e)
theorem link_fit (h0 : 1 ≤ n) (h1 : n ≤ 7) (hL : okL n L) (hb : K.filter (sm (linkT n L)) = []) : linkT n L ∈ fitT n L K := by
  refine fitT_mem.mpr ⟨link_mem h0 h1, ?_⟩
  unfold fitB
  rw [link_near hL, Bool.true_and, List.all_eq_true]
  intro p hp
  have := List.filter_eq_nil_iff.mp hb p hp
  simpa using this
theorem fit_bad (h0 : 1 ≤ n) (h1 : n ≤ 7) (hL : okL n L) (hK : okL n K) : fitT n L K = [] ↔ K.filter (sm (linkT n L)) ≠ [] := by
  constructor
  · intro z hb
    have := link_fit h0 h1 hL hb
    rw [z] at this
    cases this
  · intro hb
    rw [List.eq_nil_iff_forall_not_mem]
    intro row hr
    obtain ⟨-, hf⟩ := fitT_mem.mp hr
    unfold fitB at hf
    rw [Bool.and_eq_true] at hf
    obtain ⟨p, hp⟩ := List.exists_mem_of_ne_nil _ hb
    obtain ⟨hpK, e⟩ := List.mem_filter.mp hp
    have s := link_least hL hf.1 (hK p hpK) e
    have := List.all_eq_true.mp hf.2 p hpK
    rw [s] at this
    cases this
theorem pairs_okP : okP n (pairsT n) := fun p hp => by
  have := pairsT_mem.mp hp
  exact ⟨⟨⟨by omega, by omega⟩, by omega, by omega⟩, by omega⟩
theorem sure_link (h0 : 1 ≤ n) (h1 : n ≤ 7) (hL : okL n L) (hb : K.filter (sm (linkT n L)) = []) : sureT n (fitT n L K) = (pairsT n).filter (sm (linkT n L)) := by
  unfold sureT
  refine List.filter_congr fun p hp => ?_
  rw [Bool.eq_iff_iff]
  constructor
  · intro h
    exact List.all_eq_true.mp h _ (link_fit h0 h1 hL hb)
  · intro h
    rw [List.all_eq_true]
    intro row hr
    have hf := (fitT_mem.mp hr).2
    unfold fitB at hf
    rw [Bool.and_eq_true] at hf
    exact link_least hL hf.1 (pairs_okP p hp).1 h
theorem rgs_sorted : ∀ n ∈ List.range 8, (List.range ((rgs n).length - 1)).all (fun i => match (rgs n)[i]?, (rgs n)[i + 1]? with | some a, some b => leR a b | _, _ => false) = true := by decide +kernel
theorem chain_pair : ∀ (l : List (List Int)), ((List.range (l.length - 1)).all (fun i => match l[i]?, l[i + 1]? with | some a, some b => leR a b | _, _ => false)) = true → l.Pairwise (fun a b => leR a b = true)
  | [], _ => .nil
  | [a], _ => by simp
  | a :: b :: l, h => by
    have h0 : leR a b = true := by
      have := List.all_eq_true.mp h 0 (List.mem_range.mpr (by simp))
      exact this
    have ht : (b :: l).Pairwise (fun a b => leR a b = true) := chain_pair (b :: l) (by
      rw [List.all_eq_true]
      intro i hi
      have := List.all_eq_true.mp h (i + 1) (List.mem_range.mpr (by have := List.mem_range.mp hi; simp at this ⊢; omega))
      simpa using this)
    refine List.pairwise_cons.mpr ⟨fun c hc => ?_, ht⟩
    rcases List.mem_cons.mp hc with e | e
    · rw [e]; exact h0
    · exact leR_trans h0 ((List.pairwise_cons.mp ht).1 c e)
theorem rgs_pairwise {n : Nat} (h : n ≤ 7) : (rgs n).Pairwise (fun a b => leR a b = true) := chain_pair _ (rgs_sorted n (List.mem_range.mpr (by omega)))
/-- parts of a sorted list, put together again -/
theorem sort_parts {n : Nat} (h : n ≤ 7) {p q r : List Int → Bool} (hp : ∀ x, r x = (p x || q x)) (hd : ∀ x, (p x && q x) = false) : sortR ((rgs n).filter p ++ (rgs n).filter q) = (rgs n).filter r := by
  refine sortedR_uniq ((sortR_perm _).trans ?_) (sortR_sorted _) ((rgs_pairwise h).filter _)
  have : ∀ xs : List (List Int), (xs.filter p ++ xs.filter q).Perm (xs.filter r) := by
    intro xs
    induction xs with
    | nil => exact .refl _
    | cons x xs ih =>
      have h1 := hp x
      have h2 := hd x
      simp only [List.filter_cons]
      cases e1 : p x with
      | true =>
        rw [e1] at h1 h2
        simp at h1 h2
        simp [h1, h2]
        exact ih
      | false =>
        rw [e1] at h1
        simp at h1
        cases e2 : q x with
        | true =>
          rw [e2] at h1
          simp [h1]
          exact List.perm_middle.trans (ih.cons _)
        | false =>
          rw [e2] at h1
          simp [h1]
          exact ih
  exact this _
theorem zero_mem (h0 : 1 ≤ n) (h1 : n ≤ 7) : List.replicate n (0 : Int) ∈ rgs n := by
  have : ∀ n ∈ List.range 8, 1 ≤ n → decide (List.replicate n (0 : Int) ∈ rgs n) = true := by decide +kernel
  exact of_decide_eq_true (this n (List.mem_range.mpr (by omega)) h0)
theorem at0_rep (n : Nat) (i : Int) : at0 (List.replicate n (0 : Int)) i = 0 := by
  unfold at0
  rw [List.getD_eq_getElem?_getD, List.getElem?_replicate]
  split <;> rfl
end Pg

/-! Draws within loops. -/
namespace Pg
open PySem PySem.Spec PyProof.Rows L2 DL
section
variable {ρ ρ1 ρ2 : List DL.Slot} {w w1 w2 w' : W'} {f h s : Sm} {fe : X D} {ft : X Bool} {t : Tgt} {body : Sm} {d : D} {r : List D}
theorem seq_ok (e : s ρ w = .nx ρ1 w1) : sSeq s h ρ w = h ρ1 w1 := by
  unfold sSeq
  rw [e]
  rfl
theorem set_nx {i : Nat} (e : fe ρ w = .ok d w') : sSet i fe ρ w = .nx (ρ.set i (.d d)) w' := by
  unfold sSet Res.to
  rw [e]
theorem app_ok {i : Nat} {xs : List D} (o : ρ[i]? = some (.own xs)) (hl : xs.length < 100000) (e : fe ρ w = .ok d w') : sApp i fe ρ w = .nx (ρ.set i (.own (xs ++ [d]))) w' := by
  unfold sApp
  rw [o, e]
  show (if decide (xs.length < sizeLine) then SR.nx _ _ else _) = _
  have q : decide (xs.length < sizeLine) = true := decide_eq_true (Nat.lt_of_lt_of_le hl (by decide))
  rw [q]
  rfl
theorem for_nx (e1 : t.set d ρ = some ρ1) (e2 : body ρ1 w = .nx ρ2 w2) : forF t body (d :: r) ρ w = forF t body r ρ2 w2 := by
  show (match t.set d ρ with | none => _ | some ρ1 => _) = _
  rw [e1]
  dsimp only
  rw [e2]
theorem for_ok {fi : X (List D)} {ds : List D} (e : fi ρ w = .ok ds w') : sFor fi t body ρ w = forF t body ds ρ w' := by
  unfold sFor Res.to
  rw [e]
theorem ifB_ok {b : Bool} (e : ft ρ w = .ok b w') : sIf ft f h ρ w = if b then f ρ w' else h ρ w' := by
  unfold sIf Res.to
  rw [e]
theorem m_ok {α : Type} {m : M α} {a : α} (e : m = M.pure a) : m w = .ok a w := by rw [e]; rfl
theorem nx_ok {s : W' → SR} (e : s = S.nx ρ1) : s w = .nx ρ1 w := by rw [e]; rfl
end
theorem drawn_ok {n m : Nat} {w : W'} (d : DW w) (h0 : 1 ≤ n) (h7 : n ≤ 7) (m0 : 0 < m) (m1 : m ≤ 20) : ∃ (L : List (Int × Int)) (w' : W'), m__law_drawn [hnd 0, .int (n : Nat), .int (m : Nat)] w = .ok (eL L) w' ∧ okP n L ∧ L.length < m ∧ DW w' := by
  have key : 2 ≤ n → ∀ (ts : List Int) (acc : List (Int × Int)) (w : W') (s4 s5 : DL.Slot), acc.length + ts.length < 1000 → DW w → ∃ (L : List (Int × Int)) (w' : W') (t4 t5 : DL.Slot), forF (.nm 4) b__law_drawn_1 (ts.map Enc.e) [.d (hnd 0), .d (.int (n : Nat)), .d (.int (m : Nat)), .own (acc.map Enc.e), s4, s5] w =
      .nx [.d (hnd 0), .d (.int (n : Nat)), .d (.int (m : Nat)), .own ((acc ++ L).map Enc.e), t4, t5] w' ∧ okP n L ∧ L.length = ts.length ∧ DW w' := by
    intro hn2 ts
    induction ts with
    | nil => intro acc w s4 s5 _ d; exact ⟨[], w, s4, s5, by rw [List.append_nil]; rfl, (fun _ h => by cases h), rfl, d⟩
    | cons x ts ih =>
      intro acc w s4 s5 hl d
      rw [List.length_cons] at hl
      obtain ⟨a, w1, e1, a0, a1, d1⟩ := draw_call (i := 0) (n := (n : Int)) (fn := xVar 1) (ρ := [.d (hnd 0), .d (.int (n : Nat)), .d (.int (m : Nat)), .own (acc.map Enc.e), .d (.int x), s5]) d rfl rfl (by omega) (by omega)
      obtain ⟨b, w2, e2, b0, b1, d2⟩ := draw_call (i := 0) (n := (n : Int) - 1) (fn := x2 kSub (xVar 1) (xC (.int 1))) (ρ := [.d (hnd 0), .d (.int (n : Nat)), .d (.int (m : Nat)), .own (acc.map Enc.e), .d (.int x), .d (.int a)]) d1 rfl rfl (by omega) (by omega)
      have c0 : 0 ≤ (a + 1 + b) % (n : Int) := Int.emod_nonneg _ (by omega)
      have c1 : (a + 1 + b) % (n : Int) < n := Int.emod_lt_of_pos _ (by omega)
      have c2 : a ≠ (a + 1 + b) % (n : Int) := by
        intro z
        by_cases q : a + 1 + b < n
        · rw [Int.emod_eq_of_lt (by omega) q] at z; omega
        · have : (a + 1 + b) % (n : Int) = a + 1 + b - n := by
            rw [← Int.sub_emod_right (a + 1 + b) n, Int.emod_eq_of_lt (by omega) (by omega)]
          omega
      generalize hc : (a + 1 + b) % (n : Int) = c at c0 c1 c2
      have e3 : x2 kMod (x2 kAdd (x2 kAdd (xVar 5) (xC (.int 1))) (xCall m__law_draw (xCons (xVar 0) (xCons (x2 kSub (xVar 1) (xC (.int 1))) xNil)))) (xVar 1) [.d (hnd 0), .d (.int (n : Nat)), .d (.int (m : Nat)), .own (acc.map Enc.e), .d (.int x), .d (.int a)] w1 = .ok (.int c) w2 := by
        rw [x2_ok (x2_ok (a := .int (a + 1)) (w1 := w1) rfl e2) (b := .int (n : Nat)) (w' := w2) rfl]
        exact m_ok (by rw [← hc]; exact v_mod (by omega))
      obtain ⟨L, w3, t4, t5, e4, o, l, d3⟩ := ih (acc ++ [(a, c)]) w2 (.d (.int x)) (.d (.int a)) (by rw [List.length_append, List.length_singleton]; omega) d2
      refine ⟨(a, c) :: L, w3, t4, t5, ?_, ?_, by rw [List.length_cons, List.length_cons, l], d3⟩
      · rw [List.map_cons, for_nx (ρ1 := [.d (hnd 0), .d (.int (n : Nat)), .d (.int (m : Nat)), .own (acc.map Enc.e), .d (.int x), s5]) (ρ2 := [.d (hnd 0), .d (.int (n : Nat)), .d (.int (m : Nat)), .own ((acc ++ [(a, c)]).map Enc.e), .d (.int x), .d (.int a)]) (w2 := w2) rfl, e4]
        · rw [List.append_assoc]; rfl
        · unfold b__law_drawn_1
          rw [seq_ok (set_nx e1)]
          have := app_ok (i := 3) (ρ := [.d (hnd 0), .d (.int (n : Nat)), .d (.int (m : Nat)), .own (acc.map Enc.e), .d (.int x), .d (.int a)]) (w := w1) (w' := w2) (xs := acc.map Enc.e) (d := .tuple [.int a, .int c]) rfl (by rw [List.length_map]; omega)
            (xTup_ok (xCons_ok (d := .int a) (w1 := w1) (xVar_ok (i := 5) rfl) (xCons_ok e3 xNil_ok)))
          rw [List.map_append]
          exact this
      · intro p hp
        rcases List.mem_cons.mp hp with q | q
        · rw [q]; exact ⟨⟨⟨a0, a1⟩, c0, c1⟩, c2⟩
        · exact o p q
  by_cases hn2 : 2 ≤ n
  · obtain ⟨r, w1, e1, r0, r1, d1⟩ := draw_call (i := 0) (n := (m : Int)) (fn := xVar 2) (ρ := [.d (hnd 0), .d (.int (n : Nat)), .d (.int (m : Nat)), .own [], .un, .un]) d rfl rfl (by omega) (by omega)
    obtain ⟨L, w2, t4, t5, e2, o, l, d2⟩ := key hn2 (rg r.toNat) [] w1 .un .un (by rw [rg_len]; show 0 + _ < _; omega) d1
    rw [rg_len] at l
    refine ⟨L, w2, ?_, o, by omega, d2⟩
    unfold m__law_drawn f__law_drawn
    refine run_ok ?_
    show sSeq (sOwn 3 (xLst xNil)) _ [.d (hnd 0), .d (.int (n : Nat)), .d (.int (m : Nat)), .un, .un, .un] w = _
    rw [seq_ok (ρ1 := [.d (hnd 0), .d (.int (n : Nat)), .d (.int (m : Nat)), .own [], .un, .un]) (w1 := w) (nx_ok (by simp)), seq_ok (ρ1 := [.d (hnd 0), .d (.int (n : Nat)), .d (.int (m : Nat)), .own (L.map Enc.e), t4, t5]) (w1 := w2)]
    · rw [v_frz rfl]; rfl
    · rw [for_ok (ds := (rg r.toNat).map Enc.e) (w' := w1)]
      · exact e2
      · have e3 : xIf (xT (x2 kGt (xVar 1) (xC (.int 1)))) (xCall m__law_draw (xCons (xVar 0) (xCons (xVar 2) xNil))) (xC (.int 0)) [.d (hnd 0), .d (.int (n : Nat)), .d (.int (m : Nat)), .own [], .un, .un] w = .ok (.int r) w1 := by
          have q : decide (1 < (n : Int)) = true := decide_eq_true (by omega)
          rw [v_xIf]
          simp only [v_xT, v_x2, v_varS, v_var0, v_bind_pure, v_C, v_kGt, q, v_asB, if_true]
          exact e1
        have e4 : kRg (.int r) = M.pure ((rg r.toNat).map Enc.e) := v_rg r0 (by omega)
        show M.bind _ kRg w = _
        rw [bind_ok e3, e4]
        rfl
  · refine ⟨[], w, ?_, (fun _ h => by cases h), by simpa using m0, d⟩
    have q : decide (1 < (n : Int)) = false := decide_eq_false (by omega)
    have e4 : kRg (.int 0) = M.pure ([] : List D) := by rw [v_rg (by omega) (by omega)]; rfl
    refine m_ok ?_
    simp [m__law_drawn, f__law_drawn, q, e4, for_nil]
    rw [v_frz rfl]
    simp
    rfl
/-- some of a list, the others by a test, or by a draw -/
theorem comp_draw {α : Type} {t : Tgt} {ft : X Bool} {fe : X D} {ρ1 : List DL.Slot} (f v : α → D) (P : α → Prop) : ∀ (xs : List α) (acc : List D) (w : W'), DW w →
    (∀ x ∈ xs, ∃ ρ2, t.set (f x) ρ1 = some ρ2 ∧ (∀ w, DW w → ∃ b w', ft ρ2 w = .ok b w' ∧ (b = true → P x) ∧ DW w') ∧ fe ρ2 = M.pure (v x)) →
    ∃ (ys : List α) (w' : W'), compF ρ1 t ft fe (xs.map f) acc w = .ok (.list (acc ++ ys.map v)) w' ∧ ys.Sublist xs ∧ (∀ y ∈ ys, P y) ∧ DW w'
  | [], acc, w, d, _ => ⟨[], w, by show _ = Res.ok (PyData.list (acc ++ [])) w; rw [List.append_nil]; rfl, .slnil, (fun _ h => by cases h), d⟩
  | x :: xs, acc, w, d, h => by
    obtain ⟨ρ2, e1, e2, e3⟩ := h x List.mem_cons_self
    obtain ⟨b, w1, e4, hb, d1⟩ := e2 w d
    cases b with
    | false =>
      obtain ⟨ys, w', e5, s, p, d2⟩ := comp_draw f v P xs acc w1 d1 fun y hy => h y (List.mem_cons_of_mem _ hy)
      refine ⟨ys, w', ?_, s.cons x, p, d2⟩
      rw [List.map_cons]
      unfold compF
      rw [e1]
      show M.bind (ft ρ2) _ w = _
      rw [bind_ok e4]
      exact e5
    | true =>
      obtain ⟨ys, w', e5, s, p, d2⟩ := comp_draw f v P xs (acc ++ [v x]) w1 d1 fun y hy => h y (List.mem_cons_of_mem _ hy)
      refine ⟨x :: ys, w', ?_, s.cons₂ x, fun y hy => ?_, d2⟩
      · rw [List.map_cons]
        unfold compF
        rw [e1]
        show M.bind (ft ρ2) _ w = _
        rw [bind_ok e4]
        show (if true = true then M.bind (fe ρ2) _ else _) w1 = _
        rw [if_pos rfl, e3, v_bind_pure, e5, List.append_assoc]
        rfl
      · rcases List.mem_cons.mp hy with q | q
        · rw [q]; exact hb rfl
        · exact p y q
theorem lc_draw2 {α : Type} {vs : List Nat} {t : Tgt} {fi : X (List D)} {ft : X Bool} {fe : X D} {ρ : List DL.Slot} {w : W'} (f v : α → D) (P : α → Prop) (xs : List α) (hi : fi ρ = M.pure (xs.map f)) (d : DW w)
    (h : ∀ x ∈ xs, ∃ ρ2, t.set (f x) (wipeS ρ vs) = some ρ2 ∧ (∀ w, DW w → ∃ b w', ft ρ2 w = .ok b w' ∧ (b = true → P x) ∧ DW w') ∧ fe ρ2 = M.pure (v x)) :
    ∃ (ys : List α) (w' : W'), xLc vs t fi ft fe ρ w = .ok (.list (ys.map v)) w' ∧ ys.Sublist xs ∧ (∀ y ∈ ys, P y) ∧ DW w' := by
  obtain ⟨ys, w', e, s, p, d2⟩ := comp_draw f v P xs [] w d h
  refine ⟨ys, w', ?_, s, p, d2⟩
  rw [v_xLc, hi, v_bind_pure]
  unfold M.nerr
  rw [e]
  rfl
end Pg

set_option maxHeartbeats 4000000
/-! Laws of wishes, more. -/
namespace Pg
open PySem PySem.Spec PyProof.Rows L2 DL
instance : Sh (List (Int × Int) × List (Int × Int)) := ⟨by decide⟩
theorem shaped_two (a b : List (Int × Int)) : kEq (.tuple [eL a, eL b]) (.tuple [eL a, eL b]) = M.pure (.bool true) := by
  have := DL.v_eq (a, b) (a, b)
  rw [decide_eq_true rfl] at this
  exact this
theorem pairs_bad {row : List Int} {n : Nat} (hl : row.length = n) {L : List (Int × Int)} (h : okL n L) {ρ1 : List DL.Slot} {fr : X D} {i : Nat} (hr : ∀ p : Int × Int, fr (ρ1.set i (.d (.tuple [.int p.1, .int p.2]))) = M.pure (eL row)) (hi : ∀ p : Int × Int, xVar i (ρ1.set i (.d (.tuple [.int p.1, .int p.2]))) = M.pure (.tuple [.int p.1, .int p.2])) :
    compF ρ1 (.nm i) (xT (x2 kNe (x2 kIx fr (x2 kIx (xVar i) (xC (.int 0)))) (x2 kIx fr (x2 kIx (xVar i) (xC (.int 1)))))) (xVar i) (L.map Enc.e) [] = M.pure (eL (L.filter fun p => !sm row p)) ∧
    compF ρ1 (.nm i) (xT (x2 kEq (x2 kIx fr (x2 kIx (xVar i) (xC (.int 0)))) (x2 kIx fr (x2 kIx (xVar i) (xC (.int 1)))))) (xVar i) (L.map Enc.e) [] = M.pure (eL (L.filter (sm row))) := by
  have i0 : ∀ p : Int × Int, kIx (.tuple [.int p.1, .int p.2]) (.int 0) = M.pure (.int p.1) := fun _ => rfl
  have i1 : ∀ p : Int × Int, kIx (.tuple [.int p.1, .int p.2]) (.int 1) = M.pure (.int p.2) := fun _ => rfl
  constructor
  · rw [v_filter Enc.e (fun p => !sm row p) Enc.e _ ?_]
    · rfl
    · intro p hp
      obtain ⟨k1, k2⟩ := kIx_ok hl h hp
      exact ⟨_, rfl, by simp [hr, hi, i0, i1, k1, k2]; rfl, fun _ => hi p⟩
  · rw [v_filter Enc.e (sm row) Enc.e _ ?_]
    · rfl
    · intro p hp
      obtain ⟨k1, k2⟩ := kIx_ok hl h hp
      exact ⟨_, rfl, by simp [hr, hi, i0, i1, k1, k2]; rfl, fun _ => hi p⟩
theorem fit_test {L K : List (Int × Int)} {row : List Int} : (decide (L.filter (fun p => !sm row p) = []) && decide (K.filter (sm row) = [])) = fitB L K row := by
  unfold fitB
  rw [Bool.eq_iff_iff]
  simp [List.filter_eq_nil_iff, List.all_eq_true]
end Pg

set_option maxHeartbeats 4000000
namespace Pg
open PySem PySem.Spec PyProof.Rows L2 DL
/-! ### the pairs drawn -/
def b9 : Sm := (sSeq (sSet 5 e4)
    (sApp 3 (xTup (xCons (xVar 5) (xCons (x2 kMod (x2 kAdd (x2 kAdd (xVar 5) (xC (.int 1))) (xCall m__law_draw (xCons (xVar 1) (xCons (x2 kSub (xVar 2) (xC (.int 1))) xNil)))) (xVar 2)) xNil)))))
def sd (n : Nat) (L : List (Int × Int)) (s4 s5 : DL.Slot) : List DL.Slot := [.un, .d (hnd 0), .d (.int (n : Nat)), .own (L.map Enc.e), s4, s5, .un, .un, .un, .un, .un, .un, .un]
/-- another one of so many -/
theorem other_ok {n : Nat} {a b : Int} (hn : 2 ≤ n) (a0 : 0 ≤ a) (a1 : a < n) (b0 : 0 ≤ b) (b1 : b < (n : Int) - 1) : 0 ≤ (a + 1 + b) % (n : Int) ∧ (a + 1 + b) % (n : Int) < n ∧ a ≠ (a + 1 + b) % (n : Int) := by
  refine ⟨Int.emod_nonneg _ (by omega), Int.emod_lt_of_pos _ (by omega), fun z => ?_⟩
  by_cases q : a + 1 + b < n
  · rw [Int.emod_eq_of_lt (by omega) q] at z; omega
  · have : (a + 1 + b) % (n : Int) = a + 1 + b - n := by
      rw [← Int.sub_emod_right (a + 1 + b) n, Int.emod_eq_of_lt (by omega) (by omega)]
    omega
theorem draws9 {n : Nat} (hn : 2 ≤ n) (h7 : n ≤ 7) : ∀ (ts : List Int) (acc : List (Int × Int)) (w : W') (s4 s5 : DL.Slot), acc.length + ts.length < 1000 → DW w →
    ∃ (L : List (Int × Int)) (w' : W') (t4 t5 : DL.Slot), forF (.nm 4) b9 (ts.map Enc.e) (sd n acc s4 s5) w = .nx (sd n (acc ++ L) t4 t5) w' ∧ okP n L ∧ L.length = ts.length ∧ DW w'
  | [], acc, w, s4, s5, _, d => ⟨[], w, s4, s5, by rw [List.append_nil]; rfl, (fun _ h => by cases h), rfl, d⟩
  | x :: ts, acc, w, s4, s5, hl, d => by
    rw [List.length_cons] at hl
    obtain ⟨a, w1, q1, a0, a1, d1⟩ := draw_call (i := 1) (n := (n : Int)) (fn := xVar 2) (ρ := sd n acc (.d (.int x)) s5) d rfl rfl (by omega) (by omega)
    obtain ⟨b, w2, q2, b0, b1, d2⟩ := draw_call (i := 1) (n := (n : Int) - 1) (fn := x2 kSub (xVar 2) (xC (.int 1))) (ρ := sd n acc (.d (.int x)) (.d (.int a))) d1 rfl rfl (by omega) (by omega)
    obtain ⟨c0, c1, c2⟩ := other_ok hn a0 a1 b0 b1
    have q3 : x2 kMod (x2 kAdd (x2 kAdd (xVar 5) (xC (.int 1))) (xCall m__law_draw (xCons (xVar 1) (xCons (x2 kSub (xVar 2) (xC (.int 1))) xNil)))) (xVar 2) (sd n acc (.d (.int x)) (.d (.int a))) w1 = .ok (.int ((a + 1 + b) % (n : Int))) w2 := by
      rw [x2_ok (x2_ok (a := .int (a + 1)) (w1 := w1) rfl q2) (b := .int (n : Nat)) (w' := w2) rfl]
      exact m_ok (v_mod (by omega))
    obtain ⟨L, w3, t4, t5, q4, o, l, d3⟩ := draws9 hn h7 ts (acc ++ [(a, (a + 1 + b) % (n : Int))]) w2 (.d (.int x)) (.d (.int a)) (by rw [List.length_append, List.length_singleton]; omega) d2
    refine ⟨(a, (a + 1 + b) % (n : Int)) :: L, w3, t4, t5, ?_, ?_, by rw [List.length_cons, List.length_cons, l], d3⟩
    · rw [List.map_cons, for_nx (ρ1 := sd n acc (.d (.int x)) s5) (ρ2 := sd n (acc ++ [(a, (a + 1 + b) % (n : Int))]) (.d (.int x)) (.d (.int a))) (w2 := w2) rfl ?_, q4]
      · rw [List.append_assoc]; rfl
      · unfold b9
        rw [seq_ok (set_nx (show e4 (sd n acc (.d (.int x)) s5) w = _ from q1))]
        have := app_ok (i := 3) (ρ := sd n acc (.d (.int x)) (.d (.int a))) (w := w1) (w' := w2) (xs := acc.map Enc.e) (d := .tuple [.int a, .int ((a + 1 + b) % (n : Int))]) rfl (by rw [List.length_map]; omega)
          (xTup_ok (xCons_ok (d := .int a) (w1 := w1) (xVar_ok (i := 5) rfl) (xCons_ok q3 xNil_ok)))
        show sApp 3 _ (sd n acc (.d (.int x)) (.d (.int a))) w1 = _
        rw [this]
        unfold sd
        rw [List.map_append]
        rfl
    · intro p hp
      rcases List.mem_cons.mp hp with q | q
      · rw [q]; exact ⟨⟨⟨a0, a1⟩, c0, c1⟩, c2⟩
      · exact o p q
/-! ### the rounds -/
def se (n : Nat) (L : List (Int × Int)) (a last : Int) (kvs : List (Int × Int)) (s4 s5 s9 s10 : DL.Slot) : List DL.Slot := [.un, .d (hnd 0), .d (.int (n : Nat)), .own (L.map Enc.e), s4, s5, .d (.int a), .d (.int last), .dc kvs, s9, s10, .un, .un]
def Ks (n : Nat) (kvs : List (Int × Int)) : Prop := (kvs.map (·.1)).Nodup ∧ ∀ k ∈ kvs.map (·.1), k ∈ rg n
theorem ks_len {n : Nat} {kvs : List (Int × Int)} (h : Ks n kvs) : kvs.length ≤ n := by
  have := nodup_sub_len (kvs.map (·.1)) (rg n) h.1 h.2
  rwa [List.length_map, rg_len] at this
theorem ks_put {n : Nat} {kvs : List (Int × Int)} (h : Ks n kvs) {k v : Int} (hk : k ∈ rg n) : Ks n (dcPut kvs k v) := by
  unfold dcPut
  split
  · have e : (kvs.map fun p => if p.1 = k then (p.1, v) else p).map (·.1) = kvs.map (·.1) := by
      rw [List.map_map]
      refine List.map_congr_left fun p _ => ?_
      show (if p.1 = k then (p.1, v) else p).1 = p.1
      split <;> rfl
    unfold Ks
    rw [e]
    exact h
  · rename_i hn
    unfold Ks
    rw [List.map_append]
    refine ⟨List.nodup_append.mpr ⟨h.1, by simp, fun x hx y hy e => ?_⟩, fun x hx => ?_⟩
    · simp at hy
      rw [e, hy] at hx
      obtain ⟨p, hp, e2⟩ := List.mem_map.mp hx
      exact hn (List.any_eq_true.mpr ⟨p, hp, decide_eq_true e2⟩)
    · rcases List.mem_append.mp hx with q | q
      · exact h.2 x q
      · simp at q; rw [q]; exact hk
theorem rel_ks {n : Nat} {kvs : List (Int × Int)} (h : Ks n kvs) {p : Int × Int} (hp : p.2 ∈ rg n) : Ks n (relT n kvs p) := by
  unfold relT
  split
  · split
    · exact ks_put h hp
    · exact h
  · exact h
def b10 : Sm := sIf q9 (sDput 8 (xVar 10) (x2 kAdd (xDGet 8 (xVar 4)) (xC (.int 1)))) sNx
section
variable {n : Nat} {L : List (Int × Int)} {a last : Int}
theorem rel_ok {kvs : List (Int × Int)} (h : Ks n kvs) (h7 : n ≤ 7) (p : Int × Int) (s5 s9 : DL.Slot) : b10 (se n L a last kvs (.d (.int p.1)) s5 s9 (.d (.int p.2))) = S.nx (se n L a last (relT n kvs p) (.d (.int p.1)) s5 s9 (.d (.int p.2))) := by
  have hl := ks_len h
  have e1 : xDIn 8 (xVar 4) (se n L a last kvs (.d (.int p.1)) s5 s9 (.d (.int p.2))) = M.pure (.bool (dcVal kvs p.1).isSome) := by
    rw [v_xDIn (kvs := kvs) rfl]
    simp [se, kDIn]
  have e2 : xDGet2 8 (xVar 10) (xVar 2) (se n L a last kvs (.d (.int p.1)) s5 s9 (.d (.int p.2))) = M.pure (.int ((dcVal kvs p.2).getD n)) := by
    rw [v_xDGet2 (kvs := kvs) rfl]
    simp [se, dcGet]
    cases dcVal kvs p.2 <;> rfl
  unfold b10
  cases hc : dcVal kvs p.1 with
  | none =>
    have er : relT n kvs p = kvs := by unfold relT; rw [hc]
    rw [hc] at e1
    rw [er]
    have eq : q9 (se n L a last kvs (.d (.int p.1)) s5 s9 (.d (.int p.2))) = M.pure false := by
      simp [q9, e1]
    simp [eq]
  | some c =>
    rw [hc] at e1
    have e3 : xDGet 8 (xVar 4) (se n L a last kvs (.d (.int p.1)) s5 s9 (.d (.int p.2))) = M.pure (.int c) := by
      rw [v_xDGet (kvs := kvs) rfl]
      simp [se, kDGet, hc]
    have eq : q9 (se n L a last kvs (.d (.int p.1)) s5 s9 (.d (.int p.2))) = M.pure (decide (c + 1 < (dcVal kvs p.2).getD n)) := by
      simp [q9, e1, e2, e3]
    by_cases hlt : c + 1 < (dcVal kvs p.2).getD n
    · have er : relT n kvs p = dcPut kvs p.2 (c + 1) := by unfold relT; rw [hc]; dsimp only; rw [if_pos hlt]
      rw [decide_eq_true hlt] at eq
      rw [er, v_sIf, eq, v_bindS_pure, if_pos rfl, v_sDput (kvs := kvs) rfl]
      simp only [v_x2, e3, v_bind_pure, v_C]
      simp [se, v_dputS (show kvs.length < 1000 by omega)]
    · have er : relT n kvs p = kvs := by unfold relT; rw [hc]; dsimp only; rw [if_neg hlt]
      rw [decide_eq_false hlt] at eq
      rw [er]
      simp [eq]
theorem sweep_ok (h7 : n ≤ 7) (hL : okL n L) {kvs : List (Int × Int)} (h : Ks n kvs) (P : List (Int × Int)) (hP : ∀ p ∈ P, p.2 ∈ rg n) (s4 s5 s9 s10 : DL.Slot) :
    ∃ ρ', forF (.tp [4, 10]) b10 (P.map Enc.e) (se n L a last kvs s4 s5 s9 s10) = S.nx ρ' ∧ ∃ t4 t10, ρ' = se n L a last (P.foldl (relT n) kvs) t4 s5 s9 t10 ∧ Ks n (P.foldl (relT n) kvs) := by
  refine v_for (fun kvs ρ => ∃ t4 t10, ρ = se n L a last kvs t4 s5 s9 t10 ∧ Ks n kvs) Enc.e (relT n) P kvs _ ⟨s4, s10, rfl, h⟩ ?_
  rintro p hp kvs ρ ⟨t4, t10, rfl, k⟩
  exact ⟨se n L a last kvs (.d (.int p.1)) s5 s9 (.d (.int p.2)), _, rfl, .inl (rel_ok k h7 p s5 s9), _, _, rfl, rel_ks k (hP p hp)⟩
theorem both_it (hl : L.length ≤ 20) {kvs : List (Int × Int)} (s4 s5 s9 s10 : DL.Slot) : a8 (se n L a last kvs s4 s5 s9 s10) = M.pure ((bothW L).map Enc.e) := by
  have ec : compF [.un, .d (hnd 0), .d (.int (n : Nat)), .own (L.map Enc.e), .un, s5, .d (.int a), .d (.int last), .dc kvs, s9, .un, .un, .un] (.tp [4, 10]) xYes (xTup (xCons (xVar 10) (xCons (xVar 4) xNil))) (L.map Enc.e) [] = M.pure (eL (L.map fun p => (p.2, p.1))) := by
    rw [v_map Enc.e (fun p => .tuple [.int p.2, .int p.1]) _ ?_]
    · unfold eL
      rw [List.map_map]
      rfl
    · intro p _
      exact ⟨_, rfl, by simp [setAll]⟩
  have ea : kAdd (eL L) (eL (L.map fun p => (p.2, p.1))) = M.pure (eL (bothW L)) := DL.v_add (by simp; omega)
  simp [a8, se, ec, ea]
theorem rounds_ok9 (h7 : n ≤ 7) (hL : okL n L) (hl : L.length ≤ 20) : ∀ (zs : List Int) {kvs : List (Int × Int)}, Ks n kvs → ∀ (s4 s5 s9 s10 : DL.Slot),
    ∃ t4 t9 t10, forF (.nm 9) (sFor a8 (.tp [4, 10]) b10) (zs.map Enc.e) (se n L a last kvs s4 s5 s9 s10) = S.nx (se n L a last (roundsR n L zs.length kvs) t4 s5 t9 t10)
  | [], kvs, _, s4, s5, s9, s10 => ⟨s4, s9, s10, rfl⟩
  | z :: zs, kvs, h, s4, s5, s9, s10 => by
    have hP : ∀ p ∈ bothW L, p.2 ∈ rg n := fun p hp => by
      rcases both_mem.mp hp with q | q
      · exact rg_mem.mpr (hL p q).2
      · exact rg_mem.mpr (hL _ q).1
    obtain ⟨ρ', e1, t4, t10, rfl, k⟩ := sweep_ok (L := L) (a := a) (last := last) h7 hL h (bothW L) hP s4 s5 (.d (.int z)) s10
    obtain ⟨u4, u9, u10, e2⟩ := rounds_ok9 h7 hL hl zs k t4 s5 (.d (.int z)) t10
    refine ⟨u4, u9, u10, ?_⟩
    rw [List.map_cons, for_cons (ρ1 := se n L a last kvs s4 s5 (.d (.int z)) s10) (ρ2 := se n L a last ((bothW L).foldl (relT n) kvs) t4 s5 (.d (.int z)) t10) rfl ?_]
    · exact e2
    · rw [v_sFor, both_it hl, v_bindS_pure]
      exact e1
/-! ### the chain told -/
theorem chain_row {row : List Int} (e : m_shortest_chain [.int (n : Nat), eL L, .int a, .int last] = M.pure (eL row)) : m__law_chain [.int (n : Nat), eL L, .int a, .int last] = M.pure (eL row) := by
  have ht : sTry 6 errs (sSet 4 (xCall m_shortest_chain (xCons (xVar 0) (xCons (xVar 1) (xCons (xVar 2) (xCons (xVar 3) xNil)))))) (sSet 5 (xVar 6)) [.d (.int (n : Nat)), .d (eL L), .d (.int a), .d (.int last), .d .none, .d .none, .un] = S.nx [.d (.int (n : Nat)), .d (eL L), .d (.int a), .d (.int last), .d (eL row), .d .none, .un] :=
    v_try_nx (by simp [e])
  simp [m__law_chain, f__law_chain, ht]
theorem chain_none (e : m_shortest_chain [.int (n : Nat), eL L, .int a, .int last] = M.err "NotFound") : m__law_chain [.int (n : Nat), eL L, .int a, .int last] = M.pure (.str "none") := by
  have le := law_error_ok (c := "NotFound") (by decide +kernel)
  have ew : errW "NotFound" = "none" := by decide +kernel
  rw [ew] at le
  have ht : sTry 6 errs (sSet 4 (xCall m_shortest_chain (xCons (xVar 0) (xCons (xVar 1) (xCons (xVar 2) (xCons (xVar 3) xNil)))))) (sSet 5 (xVar 6)) [.d (.int (n : Nat)), .d (eL L), .d (.int a), .d (.int last), .d .none, .d .none, .un] = S.nx [.d (.int (n : Nat)), .d (eL L), .d (.int a), .d (.int last), .d .none, .d (exD "NotFound"), .un] :=
    (v_try_err (c := "NotFound") (ρ1 := [.d (.int (n : Nat)), .d (eL L), .d (.int a), .d (.int last), .d .none, .d .none, .un]) (ρ2 := [.d (.int (n : Nat)), .d (eL L), .d (.int a), .d (.int last), .d .none, .d (exD "NotFound"), .d (exD "NotFound")]) (by simp [e]) (by decide +kernel) (by simp)).trans rfl
  simp [m__law_chain, f__law_chain, ht, le]
end
def sf (n : Nat) (L : List (Int × Int)) (a last : Int) (kvs : List (Int × Int)) (s4 s5 s9 s10 s11 s12 : DL.Slot) : List DL.Slot := [.un, .d (hnd 0), .d (.int (n : Nat)), .d (eL L), s4, s5, .d (.int a), .d (.int last), .dc kvs, s9, s10, s11, s12]
theorem ret_T {ρ : List DL.Slot} {w : W'} {fe : X D} {ft : X Bool} {h : Sm} (et : ft ρ = M.pure true) (e : fe ρ = M.pure (.bool true)) : Good (sSeq (sIf ft (sRet fe) sNx) h ρ w) := by
  refine good_if (b := true) (w' := w) (by rw [et]; rfl) ?_
  rw [if_pos rfl]
  refine ⟨w, ?_⟩
  unfold sSeq sRet
  rw [e]
  rfl
theorem zip_mem {L : List (Int × Int)} {a : Int} {row : List Int} (h : Pth L a row) : ∀ p ∈ row.zip (row.drop 1), eB L p.1 p.2 := by
  intro p hp
  obtain ⟨i, hi, e⟩ := List.getElem_of_mem hp
  have e2 : (row.zip (row.drop 1))[i]? = some p := by rw [List.getElem?_eq_getElem hi, e]
  rw [List.getElem?_zip_eq_some] at e2
  obtain ⟨e3, e4⟩ := e2
  rw [List.getElem?_drop, Nat.add_comm] at e4
  exact h.2 i p.1 p.2 e3 e4
section
variable {n : Nat} {L : List (Int × Int)} {a last : Int} {w : W'}
def rest9b : Sm := (sSeq (sIf q12 (sRet (xC (.bool false))) sNx)
    (sSeq (sIf q13 (sRet e14) sNx)
    (sSeq (sIf q15 (sRet (xC (.bool false))) sNx)
    (sSeq (sFor a16 (.tp [4, 10]) (sIf q17 (sRet (xC (.bool false))) sNx))
    (sRet e18)))))
def rest9 : Sm := (sSeq (sSet 11 e10) (sSeq (sSet 12 e11) rest9b))
theorem rest_ok (h2 : 2 ≤ n) (h7 : n ≤ 7) (hP : okP n L) (hl : L.length ≤ 20) (ha : 0 ≤ a ∧ a < n) (hb : 0 ≤ last ∧ last < n) (ne : a ≠ last) (s4 s5 s9 s10 : DL.Slot) : Good (rest9 (sf n L a last (distT n L a) s4 s5 s9 s10 .un .un) w) := by
  have hL := okP_L hP
  have hk : okP n [(a, last)] := fun p hp => by rw [List.mem_singleton.mp hp]; exact ⟨⟨ha, hb⟩, ne⟩
  have hk2 : okP n [(last, a)] := fun p hp => by rw [List.mem_singleton.mp hp]; exact ⟨⟨hb, ha⟩, fun z => ne z.symm⟩
  have so := shortest_ok (last := last) (by omega) h7 hP (by omega) hk
  have co := chains_ok (n := n) (by omega) h7 hP (by omega)
  have ll := linkT_len n L
  have i1 : kIx (eL (linkT n L)) (.int a) = M.pure (.int (at0 (linkT n L) a)) := v_ixI ha.1 (by omega)
  have i2 : kIx (eL (linkT n L)) (.int last) = M.pure (.int (at0 (linkT n L) last)) := v_ixI hb.1 (by omega)
  have lc := link_cn hL ha hb
  by_cases hc : Cn (lE L) a last
  · obtain ⟨m, hm⟩ := cn_mn hc
    have ds := dist_some hL ha hm
    obtain ⟨row, eb, pr, lr, la⟩ := bfs_some hL ha hm
    rw [eb] at so
    have ct := chain_row so
    have hrow : 0 < row.length := by omega
    unfold rest9
    refine good_setE (d := eL row) (by simp [sf, e10, ct]) ?_
    refine good_setE (d := eL (linkT n L)) (by simp [sf, e11, co]) ?_
    show Good (rest9b (sf n L a last (distT n L a) s4 s5 s9 s10 (.d (eL row)) (.d (eL (linkT n L)))) w)
    unfold rest9b
    have d1 : xDIn 8 (xVar 7) (sf n L a last (distT n L a) s4 s5 s9 s10 (.d (eL row)) (.d (eL (linkT n L)))) = M.pure (.bool true) := by
      rw [v_xDIn (kvs := distT n L a) rfl]
      simp [sf, kDIn, ds]
    have d2 : xDNotIn 8 (xVar 7) (sf n L a last (distT n L a) s4 s5 s9 s10 (.d (eL row)) (.d (eL (linkT n L)))) = M.pure (.bool false) := by
      rw [v_xDNotIn (kvs := distT n L a) rfl]
      simp [sf, kDNotIn, ds]
    have d3 : xDGet 8 (xVar 7) (sf n L a last (distT n L a) s4 s5 s9 s10 (.d (eL row)) (.d (eL (linkT n L)))) = M.pure (.int m) := by
      rw [v_xDGet (kvs := distT n L a) rfl]
      simp [sf, kDGet, ds]
    refine good_ifF (by
      have e : decide (at0 (linkT n L) a = at0 (linkT n L) last) = true := decide_eq_true (lc.mpr hc)
      have t : x2 kEq (x2 kIx (xVar 12) (xVar 6)) (x2 kIx (xVar 12) (xVar 7)) (sf n L a last (distT n L a) s4 s5 s9 s10 (.d (eL row)) (.d (eL (linkT n L)))) = M.pure (.bool true) := by
        simp [sf, i1, i2, lc.mpr hc]
      show M.bind (M.bind (x2 kEq (x2 kIx (xVar 12) (xVar 6)) (x2 kIx (xVar 12) (xVar 7)) (sf n L a last (distT n L a) s4 s5 s9 s10 (.d (eL row)) (.d (eL (linkT n L))))) fun x => M.bind (xDIn 8 (xVar 7) (sf n L a last (distT n L a) s4 s5 s9 s10 (.d (eL row)) (.d (eL (linkT n L))))) fun y => kNe x y) asB = _
      rw [t, v_bind_pure, d1]
      simp) ?_
    refine good_ifF (by simp [q13, d2]) ?_
    have x0 : kIx (eL row) (.int 0) = M.pure (.int a) := by
      cases row with
      | nil => simp at hrow
      | cons y r =>
        have := pr.1
        simp at this
        subst this
        exact v_ix0 y r
    have x1 : kIx (eL row) (.int (-1)) = M.pure (.int last) := by rw [ix_last hrow, la]
    refine good_ifF (by
      have t1 : xVar 11 (sf n L a last (distT n L a) s4 s5 s9 s10 (.d (eL row)) (.d (eL (linkT n L)))) = M.pure (eL row) := by simp [sf]
      have t2 : xVar 6 (sf n L a last (distT n L a) s4 s5 s9 s10 (.d (eL row)) (.d (eL (linkT n L)))) = M.pure (.int a) := by simp [sf]
      have t3 : xVar 7 (sf n L a last (distT n L a) s4 s5 s9 s10 (.d (eL row)) (.d (eL (linkT n L)))) = M.pure (.int last) := by simp [sf]
      simp [q15, t1, t2, t3, d3, x0, x1, lr]) ?_
    have hcut : kSl (eL row) (some 1) none = M.pure (eL (row.drop 1)) := by rw [v_sl, cut_from _ (by omega) (by omega)]; rfl
    have ez := kZip_l row (row.drop 1)
    have ef := v_forAll (t := .tp [4, 10]) (body := sIf q17 (sRet (xC (.bool false))) sNx) (fun ρ => ∃ t4 t10, ρ = sf n L a last (distT n L a) t4 s5 s9 t10 (.d (eL row)) (.d (eL (linkT n L)))) Enc.e (fun p : Int × Int => decide (eB L p.1 p.2)) (.bool false) (row.zip (row.drop 1)) (ρ := sf n L a last (distT n L a) s4 s5 s9 s10 (.d (eL row)) (.d (eL (linkT n L)))) ⟨_, _, rfl⟩ (by
      rintro p hp ρ ⟨t4, t10, rfl⟩
      refine ⟨sf n L a last (distT n L a) (.d (.int p.1)) s5 s9 (.d (.int p.2)) (.d (eL row)) (.d (eL (linkT n L))), sf n L a last (distT n L a) (.d (.int p.1)) s5 s9 (.d (.int p.2)) (.d (eL row)) (.d (eL (linkT n L))), rfl, ?_, _, _, rfl⟩
      have hpe := zip_mem pr p hp
      have n1 : kNotIn (.tuple [.int p.1, .int p.2]) (eL L) = M.pure (.bool (!decide ((p.1, p.2) ∈ L))) := (v_notIn (p.1, p.2) L).trans (congrArg (fun b => M.pure (PyData.bool (!b))) (decide_eq_decide.mpr Iff.rfl))
      have n2 : kNotIn (.tuple [.int p.2, .int p.1]) (eL L) = M.pure (.bool (!decide ((p.2, p.1) ∈ L))) := (v_notIn (p.2, p.1) L).trans (congrArg (fun b => M.pure (PyData.bool (!b))) (decide_eq_decide.mpr Iff.rfl))
      rw [decide_eq_true hpe, if_pos rfl]
      have hq : q17 (sf n L a last (distT n L a) (.d (.int p.1)) s5 s9 (.d (.int p.2)) (.d (eL row)) (.d (eL (linkT n L)))) = M.pure false := by
        by_cases z : (p.1, p.2) ∈ L
        · simp [q17, sf, n1, n2, z]
        · have z2 : (p.2, p.1) ∈ L := hpe.resolve_left z
          simp [q17, sf, n1, n2, z, z2]
      simp [hq])
    obtain ⟨ρ', e6, t4, t10, rfl⟩ := ef
    have eall : ((row.zip (row.drop 1)).all fun p : Int × Int => decide (eB L p.1 p.2)) = true := List.all_eq_true.mpr fun p hp => decide_eq_true (zip_mem pr p hp)
    rw [eall, if_pos rfl] at e6
    refine good_seqE (ρ' := sf n L a last (distT n L a) t4 s5 s9 t10 (.d (eL row)) (.d (eL (linkT n L)))) ?_ ?_
    · have ea : a16 (sf n L a last (distT n L a) s4 s5 s9 s10 (.d (eL row)) (.d (eL (linkT n L)))) = M.pure ((row.zip (row.drop 1)).map Enc.e) := by
        simp [a16, sf, hcut]
        simpa using ez
      rw [v_sFor, ea, v_bindS_pure]
      exact e6
    · have sm1 : sm (linkT n L) (a, last) = true := decide_eq_true (lc.mpr hc)
      have sm2 : sm (linkT n L) (last, a) = true := decide_eq_true (lc.mpr hc).symm
      have fa : m_first_against [.int (n : Nat), eL L, .list [.tuple [.int a, .int last]]] = M.pure (.tuple [.int a, .int last]) := by
        have := first_against_ok (n := n) (by omega) h7 hP (by omega) hk (by simp)
        simp only [List.filter_cons, sm1, if_true, List.filter_nil] at this
        exact this
      have cb : m_can_be [.int (n : Nat), eL L, .list [.tuple [.int last, .int a]]] = M.pure (.bool false) := by
        have := can_be_ok (n := n) (by omega) h7 hP (by omega) hk2 (by simp)
        simp only [List.all_cons, sm2, List.all_nil] at this
        exact this
      have te : kEq (.tuple [.int a, .int last]) (.tuple [.int a, .int last]) = M.pure (.bool true) := by
        have := DL.v_eq (a, last) (a, last)
        rw [decide_eq_true rfl] at this
        exact this
      refine good_retE ?_
      simp [e18, sf, fa, cb, te]
  · have ds := dist_none (v := last) ha hc
    obtain ⟨st, eb⟩ := bfs_none hL ha hc
    rw [eb] at so
    have ct := chain_none so
    unfold rest9
    refine good_setE (d := .str "none") (by simp [sf, e10, ct]) ?_
    refine good_setE (d := eL (linkT n L)) (by simp [sf, e11, co]) ?_
    show Good (rest9b (sf n L a last (distT n L a) s4 s5 s9 s10 (.d (.str "none")) (.d (eL (linkT n L)))) w)
    unfold rest9b
    have d1 : xDIn 8 (xVar 7) (sf n L a last (distT n L a) s4 s5 s9 s10 (.d (.str "none")) (.d (eL (linkT n L)))) = M.pure (.bool false) := by
      rw [v_xDIn (kvs := distT n L a) rfl]
      simp [sf, kDIn, ds]
    have d2 : xDNotIn 8 (xVar 7) (sf n L a last (distT n L a) s4 s5 s9 s10 (.d (.str "none")) (.d (eL (linkT n L)))) = M.pure (.bool true) := by
      rw [v_xDNotIn (kvs := distT n L a) rfl]
      simp [sf, kDNotIn, ds]
    refine good_ifF (by
      have hne : ¬ at0 (linkT n L) a = at0 (linkT n L) last := fun z => hc (lc.mp z)
      have t : x2 kEq (x2 kIx (xVar 12) (xVar 6)) (x2 kIx (xVar 12) (xVar 7)) (sf n L a last (distT n L a) s4 s5 s9 s10 (.d (.str "none")) (.d (eL (linkT n L)))) = M.pure (.bool false) := by
        simp [sf, i1, i2, hne]
      show M.bind (M.bind (x2 kEq (x2 kIx (xVar 12) (xVar 6)) (x2 kIx (xVar 12) (xVar 7)) (sf n L a last (distT n L a) s4 s5 s9 s10 (.d (.str "none")) (.d (eL (linkT n L))))) fun x => M.bind (xDIn 8 (xVar 7) (sf n L a last (distT n L a) s4 s5 s9 s10 (.d (.str "none")) (.d (eL (linkT n L))))) fun y => kNe x y) asB = _
      rw [t, v_bind_pure, d1]
      simp) ?_
    have en : kEq (.str "none") (.str "none") = M.pure (.bool true) := eq_same (by decide +kernel)
    exact ret_T (by simp [q13, d2]) (by simp [e14, sf, en])
end
theorem pure_law : ∀ ns : List Int, DW (world0 ns) → ∃ w', f_law (slots0 13) (world0 ns) = .ret (.bool true) w' := by
  intro ns d
  show Good _
  have el : f_law = (sSeq (sSet 2 e1) (sSeq (sOwn 3 e2) (sSeq (sFor a3 (.nm 4) b9) (sSeq (sSet 6 e5) (sSeq (sSet 7 e6) (sSeq (sDct1 8 (xVar 6) (xC (.int 0))) (sSeq (sFor a7 (.nm 9) (sFor a8 (.tp [4, 10]) b10)) (sFrz 3 rest9)))))))) := rfl
  rw [el]
  obtain ⟨r, w1, q1, r0, r1, d1⟩ := draw_call1 (ρ := slots0 13) (n := 6) d rfl (by decide) (by decide)
  obtain ⟨n, hn, n2, n7⟩ : ∃ n : Nat, (n : Int) = 2 + r ∧ 2 ≤ n ∧ n ≤ 7 := ⟨(2 + r).toNat, by omega, by omega, by omega⟩
  refine good_set (d := .int (n : Nat)) (w' := w1) (by
    show x2 kAdd (xC (.int 2)) _ _ _ = _
    rw [x2_r q1, v_kAdd, hn]
    rfl) ?_
  refine good_seqE (ρ' := sd n [] .un .un) (by simp [e2, sd, slots0, List.replicate]) ?_
  obtain ⟨c, w2, q2, c0, c1, d2⟩ := draw_call1 (ρ := sd n [] .un .un) (n := 9) d1 rfl (by decide) (by decide)
  obtain ⟨L, w3, t4, t5, q3, hP, hl, d3⟩ := draws9 n2 n7 (rg c.toNat) [] w2 .un .un (by rw [rg_len]; show 0 + _ < _; omega) d2
  rw [List.nil_append] at q3
  rw [rg_len] at hl
  refine good_seqW (ρ' := sd n L t4 t5) (w' := w3) ?_ ?_
  · rw [for_ok (ds := (rg c.toNat).map Enc.e) (w' := w2)]
    · exact q3
    · show M.bind _ kRg w1 = _
      rw [bind_ok q2, v_rg c0 (by omega)]
      rfl
  obtain ⟨a, w4, q4, a0, a1, d4⟩ := draw_call (i := 1) (n := (n : Int)) (fn := xVar 2) (ρ := sd n L t4 t5) d3 rfl rfl (by omega) (by omega)
  refine good_set (d := .int a) q4 ?_
  obtain ⟨b, w5, q5, b0, b1, d5⟩ := draw_call (i := 1) (n := (n : Int) - 1) (fn := x2 kSub (xVar 2) (xC (.int 1))) (ρ := (sd n L t4 t5).set 6 (.d (.int a))) d4 rfl rfl (by omega) (by omega)
  obtain ⟨m0, m1, m2⟩ := other_ok n2 a0 a1 b0 b1
  have q6 : e6 ((sd n L t4 t5).set 6 (.d (.int a))) w4 = .ok (.int ((a + 1 + b) % (n : Int))) w5 := by
    show x2 kMod (x2 kAdd (x2 kAdd (xVar 6) (xC (.int 1))) _) (xVar 2) _ _ = _
    rw [x2_ok (x2_ok (a := .int (a + 1)) (w1 := w4) rfl q5) (b := .int (n : Nat)) (w' := w5) rfl]
    exact m_ok (v_mod (by omega))
  refine good_set (d := .int ((a + 1 + b) % (n : Int))) q6 ?_
  generalize (a + 1 + b) % (n : Int) = last at m0 m1 m2
  refine good_seqW (ρ' := se n L a last [(a, 0)] t4 t5 .un .un) (w' := w5) (by rfl) ?_
  have hk : Ks n [(a, 0)] := ⟨by simp, fun k h => by simp at h; rw [h]; exact rg_mem.mpr ⟨a0, a1⟩⟩
  obtain ⟨u4, u9, u10, q7⟩ := rounds_ok9 (L := L) (a := a) (last := last) n7 (okP_L hP) (by omega) (rg n) hk t4 t5 .un .un
  rw [rg_len] at q7
  refine good_seqE (ρ' := se n L a last (distT n L a) u4 t5 u9 u10) (by
    have hr : kRg (.int (n : Nat)) = M.pure ((rg n).map Enc.e) := kRg_n (by omega)
    have ea : a7 (se n L a last [(a, 0)] t4 t5 .un .un) = M.pure ((rg n).map Enc.e) := by simp [a7, se, hr]
    rw [v_sFor, ea, v_bindS_pure]
    exact q7) ?_
  rw [v_frz (xs := L.map Enc.e) rfl]
  exact rest_ok n2 n7 hP (by omega) ⟨a0, a1⟩ ⟨m0, m1⟩ m2 u4 t5 u9 u10
end Pg

namespace Pg
open PySem PySem.Spec PyProof.Rows L2 DL
def ecOf (l : List (Str × Addr)) (x : Str) : Addr := (l.lookup x).getD 0
theorem all_mk {P : Program} {w : World} {K : PySem.W.Frag} {h : Heap} {mg : Str → Option Value} {fa : Addr} (pure : ∀ ns : List Int, DW (world0 ns) → ∃ w', f_law (slots0 13) (world0 ns) = .ret (.bool true) w') (X : K.In h) (G : h.Ns mainGlobals mg) (hfa : mg "law" = some (.ref fa))
    {f_is_int : Addr} {oc_is_int : Value} {od_is_int an_is_int : Option Addr} {sl_is_int : Array (Option Value)} {kV_is_int dc_is_int pm_is_int cd_is_int ct_is_int : Value}
    {f_check_size : Addr} {oc_check_size : Value} {od_check_size an_check_size : Option Addr} {sl_check_size : Array (Option Value)} {kV_check_size dc_check_size pm_check_size cd_check_size ct_check_size : Value}
    {f_numbered : Addr} {oc_numbered : Value} {od_numbered an_numbered : Option Addr} {sl_numbered : Array (Option Value)} {kV_numbered dc_numbered pm_numbered cd_numbered ct_numbered : Value}
    {f_check_pairs : Addr} {oc_check_pairs : Value} {od_check_pairs an_check_pairs : Option Addr} {sl_check_pairs : Array (Option Value)} {kV_check_pairs dc_check_pairs pm_check_pairs cd_check_pairs ct_check_pairs : Value}
    {f_check_wishes : Addr} {oc_check_wishes : Value} {od_check_wishes an_check_wishes : Option Addr} {sl_check_wishes : Array (Option Value)} {kV_check_wishes dc_check_wishes pm_check_wishes cd_check_wishes ct_check_wishes : Value}
    {f_chained : Addr} {oc_chained : Value} {od_chained an_chained : Option Addr} {sl_chained : Array (Option Value)} {kV_chained dc_chained pm_chained cd_chained ct_chained : Value}
    {f_chains : Addr} {oc_chains : Value} {od_chains an_chains : Option Addr} {sl_chains : Array (Option Value)} {kV_chains dc_chains pm_chains cd_chains ct_chains : Value}
    {f_can_be : Addr} {oc_can_be : Value} {od_can_be an_can_be : Option Addr} {sl_can_be : Array (Option Value)} {kV_can_be dc_can_be pm_can_be cd_can_be ct_can_be : Value}
    {f_first_against : Addr} {oc_first_against : Value} {od_first_against an_first_against : Option Addr} {sl_first_against : Array (Option Value)} {kV_first_against dc_first_against pm_first_against cd_first_against ct_first_against : Value}
    {f_shortest_chain : Addr} {oc_shortest_chain : Value} {od_shortest_chain an_shortest_chain : Option Addr} {sl_shortest_chain : Array (Option Value)} {kV_shortest_chain dc_shortest_chain pm_shortest_chain cd_shortest_chain ct_shortest_chain : Value}
    {f__law_start : Addr} {oc__law_start : Value} {od__law_start an__law_start : Option Addr} {sl__law_start : Array (Option Value)} {kV__law_start dc__law_start pm__law_start cd__law_start ct__law_start : Value}
    {f__law_draw : Addr} {oc__law_draw : Value} {od__law_draw an__law_draw : Option Addr} {sl__law_draw : Array (Option Value)} {kV__law_draw dc__law_draw pm__law_draw cd__law_draw ct__law_draw : Value}
    {f__law_error : Addr} {oc__law_error : Value} {od__law_error an__law_error : Option Addr} {sl__law_error : Array (Option Value)} {kV__law_error dc__law_error pm__law_error cd__law_error ct__law_error : Value}
    {f__law_chain : Addr} {oc__law_chain : Value} {od__law_chain an__law_chain : Option Addr} {sl__law_chain : Array (Option Value)} {kV__law_chain dc__law_chain pm__law_chain cd__law_chain ct__law_chain : Value}
    {f_law : Addr} {oc_law : Value} {od_law an_law : Option Addr} {sl_law : Array (Option Value)} {kV_law dc_law pm_law cd_law ct_law : Value}
    {a_BadNumber : Addr}
    {a_BadPairs : Addr}
    {a_NotFound : Addr}
    {a_BadGrouping : Addr}
    {a_BadText : Addr}
    {t_MOST_THINGS : Tok}
    {a_GroupError : Addr}
    (p_is_int : PySem.W.nsIn K mainGlobals "is_int" = some (some (.ref f_is_int)))
    (l_is_int : K.lookup f_is_int = some ⟨oc_is_int, od_is_int, .func (PySem.W.fnOf "is_int" "is_int" (defArgs s_is_int) (defBody s_is_int) (defScope s_is_int) .none kV_is_int dc_is_int pm_is_int an_is_int cd_is_int ct_is_int), sl_is_int⟩) (c_is_int : PySem.W.codeIn K cd_is_int "is_int" = true) (k_is_int : PySem.W.keepIn K (.ref f_is_int) = true)
    (p_check_size : PySem.W.nsIn K mainGlobals "check_size" = some (some (.ref f_check_size)))
    (l_check_size : K.lookup f_check_size = some ⟨oc_check_size, od_check_size, .func (PySem.W.fnOf "check_size" "check_size" (defArgs s_check_size) (defBody s_check_size) (defScope s_check_size) .none kV_check_size dc_check_size pm_check_size an_check_size cd_check_size ct_check_size), sl_check_size⟩) (c_check_size : PySem.W.codeIn K cd_check_size "check_size" = true) (k_check_size : PySem.W.keepIn K (.ref f_check_size) = true)
    (p_numbered : PySem.W.nsIn K mainGlobals "numbered" = some (some (.ref f_numbered)))
    (l_numbered : K.lookup f_numbered = some ⟨oc_numbered, od_numbered, .func (PySem.W.fnOf "numbered" "numbered" (defArgs s_numbered) (defBody s_numbered) (defScope s_numbered) .none kV_numbered dc_numbered pm_numbered an_numbered cd_numbered ct_numbered), sl_numbered⟩) (c_numbered : PySem.W.codeIn K cd_numbered "numbered" = true) (k_numbered : PySem.W.keepIn K (.ref f_numbered) = true)
    (p_check_pairs : PySem.W.nsIn K mainGlobals "check_pairs" = some (some (.ref f_check_pairs)))
    (l_check_pairs : K.lookup f_check_pairs = some ⟨oc_check_pairs, od_check_pairs, .func (PySem.W.fnOf "check_pairs" "check_pairs" (defArgs s_check_pairs) (defBody s_check_pairs) (defScope s_check_pairs) .none kV_check_pairs dc_check_pairs pm_check_pairs an_check_pairs cd_check_pairs ct_check_pairs), sl_check_pairs⟩) (c_check_pairs : PySem.W.codeIn K cd_check_pairs "check_pairs" = true) (k_check_pairs : PySem.W.keepIn K (.ref f_check_pairs) = true)
    (p_check_wishes : PySem.W.nsIn K mainGlobals "check_wishes" = some (some (.ref f_check_wishes)))
    (l_check_wishes : K.lookup f_check_wishes = some ⟨oc_check_wishes, od_check_wishes, .func (PySem.W.fnOf "check_wishes" "check_wishes" (defArgs s_check_wishes) (defBody s_check_wishes) (defScope s_check_wishes) .none kV_check_wishes dc_check_wishes pm_check_wishes an_check_wishes cd_check_wishes ct_check_wishes), sl_check_wishes⟩) (c_check_wishes : PySem.W.codeIn K cd_check_wishes "check_wishes" = true) (k_check_wishes : PySem.W.keepIn K (.ref f_check_wishes) = true)
    (p_chained : PySem.W.nsIn K mainGlobals "chained" = some (some (.ref f_chained)))
    (l_chained : K.lookup f_chained = some ⟨oc_chained, od_chained, .func (PySem.W.fnOf "chained" "chained" (defArgs s_chained) (defBody s_chained) (defScope s_chained) .none kV_chained dc_chained pm_chained an_chained cd_chained ct_chained), sl_chained⟩) (c_chained : PySem.W.codeIn K cd_chained "chained" = true) (k_chained : PySem.W.keepIn K (.ref f_chained) = true)
    (p_chains : PySem.W.nsIn K mainGlobals "chains" = some (some (.ref f_chains)))
    (l_chains : K.lookup f_chains = some ⟨oc_chains, od_chains, .func (PySem.W.fnOf "chains" "chains" (defArgs s_chains) (defBody s_chains) (defScope s_chains) .none kV_chains dc_chains pm_chains an_chains cd_chains ct_chains), sl_chains⟩) (c_chains : PySem.W.codeIn K cd_chains "chains" = true) (k_chains : PySem.W.keepIn K (.ref f_chains) = true)
    (p_can_be : PySem.W.nsIn K mainGlobals "can_be" = some (some (.ref f_can_be)))
    (l_can_be : K.lookup f_can_be = some ⟨oc_can_be, od_can_be, .func (PySem.W.fnOf "can_be" "can_be" (defArgs s_can_be) (defBody s_can_be) (defScope s_can_be) .none kV_can_be dc_can_be pm_can_be an_can_be cd_can_be ct_can_be), sl_can_be⟩) (c_can_be : PySem.W.codeIn K cd_can_be "can_be" = true) (k_can_be : PySem.W.keepIn K (.ref f_can_be) = true)
    (p_first_against : PySem.W.nsIn K mainGlobals "first_against" = some (some (.ref f_first_against)))
    (l_first_against : K.lookup f_first_against = some ⟨oc_first_against, od_first_against, .func (PySem.W.fnOf "first_against" "first_against" (defArgs s_first_against) (defBody s_first_against) (defScope s_first_against) .none kV_first_against dc_first_against pm_first_against an_first_against cd_first_against ct_first_against), sl_first_against⟩) (c_first_against : PySem.W.codeIn K cd_first_against "first_against" = true) (k_first_against : PySem.W.keepIn K (.ref f_first_against) = true)
    (p_shortest_chain : PySem.W.nsIn K mainGlobals "shortest_chain" = some (some (.ref f_shortest_chain)))
    (l_shortest_chain : K.lookup f_shortest_chain = some ⟨oc_shortest_chain, od_shortest_chain, .func (PySem.W.fnOf "shortest_chain" "shortest_chain" (defArgs s_shortest_chain) (defBody s_shortest_chain) (defScope s_shortest_chain) .none kV_shortest_chain dc_shortest_chain pm_shortest_chain an_shortest_chain cd_shortest_chain ct_shortest_chain), sl_shortest_chain⟩) (c_shortest_chain : PySem.W.codeIn K cd_shortest_chain "shortest_chain" = true) (k_shortest_chain : PySem.W.keepIn K (.ref f_shortest_chain) = true)
    (p__law_start : PySem.W.nsIn K mainGlobals "_law_start" = some (some (.ref f__law_start)))
    (l__law_start : K.lookup f__law_start = some ⟨oc__law_start, od__law_start, .func (PySem.W.fnOf "_law_start" "_law_start" (defArgs s__law_start) (defBody s__law_start) (defScope s__law_start) .none kV__law_start dc__law_start pm__law_start an__law_start cd__law_start ct__law_start), sl__law_start⟩) (c__law_start : PySem.W.codeIn K cd__law_start "_law_start" = true) (k__law_start : PySem.W.keepIn K (.ref f__law_start) = true)
    (p__law_draw : PySem.W.nsIn K mainGlobals "_law_draw" = some (some (.ref f__law_draw)))
    (l__law_draw : K.lookup f__law_draw = some ⟨oc__law_draw, od__law_draw, .func (PySem.W.fnOf "_law_draw" "_law_draw" (defArgs s__law_draw) (defBody s__law_draw) (defScope s__law_draw) .none kV__law_draw dc__law_draw pm__law_draw an__law_draw cd__law_draw ct__law_draw), sl__law_draw⟩) (c__law_draw : PySem.W.codeIn K cd__law_draw "_law_draw" = true) (k__law_draw : PySem.W.keepIn K (.ref f__law_draw) = true)
    (p__law_error : PySem.W.nsIn K mainGlobals "_law_error" = some (some (.ref f__law_error)))
    (l__law_error : K.lookup f__law_error = some ⟨oc__law_error, od__law_error, .func (PySem.W.fnOf "_law_error" "_law_error" (defArgs s__law_error) (defBody s__law_error) (defScope s__law_error) .none kV__law_error dc__law_error pm__law_error an__law_error cd__law_error ct__law_error), sl__law_error⟩) (c__law_error : PySem.W.codeIn K cd__law_error "_law_error" = true) (k__law_error : PySem.W.keepIn K (.ref f__law_error) = true)
    (p__law_chain : PySem.W.nsIn K mainGlobals "_law_chain" = some (some (.ref f__law_chain)))
    (l__law_chain : K.lookup f__law_chain = some ⟨oc__law_chain, od__law_chain, .func (PySem.W.fnOf "_law_chain" "_law_chain" (defArgs s__law_chain) (defBody s__law_chain) (defScope s__law_chain) .none kV__law_chain dc__law_chain pm__law_chain an__law_chain cd__law_chain ct__law_chain), sl__law_chain⟩) (c__law_chain : PySem.W.codeIn K cd__law_chain "_law_chain" = true) (k__law_chain : PySem.W.keepIn K (.ref f__law_chain) = true)
    (p_law : PySem.W.nsIn K mainGlobals "law" = some (some (.ref f_law)))
    (l_law : K.lookup f_law = some ⟨oc_law, od_law, .func (PySem.W.fnOf "law" "law" (defArgs s_law) (defBody s_law) (defScope s_law) .none kV_law dc_law pm_law an_law cd_law ct_law), sl_law⟩) (c_law : PySem.W.codeIn K cd_law "law" = true) (k_law : PySem.W.keepIn K (.ref f_law) = true)
    (g_BadNumber : PySem.W.nsIn K mainGlobals "BadNumber" = some (some (.ref a_BadNumber))) (x_BadNumber : PySem.W.excIn K a_BadNumber [.type "ValueError", .type "Exception", .type "BaseException", .type "object"] "ValueError.__new__" = true) (h_BadNumber : PySem.W.keepIn K (.ref a_BadNumber) = true) (b_BadNumber : PySem.W.subIn K (.ref a_BadNumber) (.type "BaseException") = some true) (y_BadNumber : PySem.W.typeIn K (.ref a_BadNumber) = some (.type "type"))
    (g_BadPairs : PySem.W.nsIn K mainGlobals "BadPairs" = some (some (.ref a_BadPairs))) (x_BadPairs : PySem.W.excIn K a_BadPairs [.type "ValueError", .type "Exception", .type "BaseException", .type "object"] "ValueError.__new__" = true) (h_BadPairs : PySem.W.keepIn K (.ref a_BadPairs) = true) (b_BadPairs : PySem.W.subIn K (.ref a_BadPairs) (.type "BaseException") = some true) (y_BadPairs : PySem.W.typeIn K (.ref a_BadPairs) = some (.type "type"))
    (g_NotFound : PySem.W.nsIn K mainGlobals "NotFound" = some (some (.ref a_NotFound))) (x_NotFound : PySem.W.excIn K a_NotFound [.type "ValueError", .type "Exception", .type "BaseException", .type "object"] "ValueError.__new__" = true) (h_NotFound : PySem.W.keepIn K (.ref a_NotFound) = true) (b_NotFound : PySem.W.subIn K (.ref a_NotFound) (.type "BaseException") = some true) (y_NotFound : PySem.W.typeIn K (.ref a_NotFound) = some (.type "type"))
    (g_BadGrouping : PySem.W.nsIn K mainGlobals "BadGrouping" = some (some (.ref a_BadGrouping))) (x_BadGrouping : PySem.W.excIn K a_BadGrouping [.type "ValueError", .type "Exception", .type "BaseException", .type "object"] "ValueError.__new__" = true) (h_BadGrouping : PySem.W.keepIn K (.ref a_BadGrouping) = true) (b_BadGrouping : PySem.W.subIn K (.ref a_BadGrouping) (.type "BaseException") = some true) (y_BadGrouping : PySem.W.typeIn K (.ref a_BadGrouping) = some (.type "type"))
    (g_BadText : PySem.W.nsIn K mainGlobals "BadText" = some (some (.ref a_BadText))) (x_BadText : PySem.W.excIn K a_BadText [.type "ValueError", .type "Exception", .type "BaseException", .type "object"] "ValueError.__new__" = true) (h_BadText : PySem.W.keepIn K (.ref a_BadText) = true) (b_BadText : PySem.W.subIn K (.ref a_BadText) (.type "BaseException") = some true) (y_BadText : PySem.W.typeIn K (.ref a_BadText) = some (.type "type"))
    (v_MOST_THINGS : PySem.W.nsIn K mainGlobals "MOST_THINGS" = some (some (.int 7 t_MOST_THINGS)))
    (z_len : PySem.W.nsIn K mainGlobals "len" = some none)
    (z_list : PySem.W.nsIn K mainGlobals "list" = some none)
    (z_isinstance : PySem.W.nsIn K mainGlobals "isinstance" = some none)
    (z_bool : PySem.W.nsIn K mainGlobals "bool" = some none)
    (z_int : PySem.W.nsIn K mainGlobals "int" = some none)
    (z_all : PySem.W.nsIn K mainGlobals "all" = some none)
    (z_tuple : PySem.W.nsIn K mainGlobals "tuple" = some none)
    (z_range : PySem.W.nsIn K mainGlobals "range" = some none)
    (z_min : PySem.W.nsIn K mainGlobals "min" = some none)
    (z_zip : PySem.W.nsIn K mainGlobals "zip" = some none)
    (g_GroupError : PySem.W.nsIn K mainGlobals "GroupError" = some (some (.ref a_GroupError))) (b_GroupError : PySem.W.subIn K (.ref a_GroupError) (.type "BaseException") = some true) (y_GroupError : PySem.W.typeIn K (.ref a_GroupError) = some (.type "type")) (is_GroupError : PySem.W.isClsIn K a_GroupError = true) (su_GroupError_GroupError : PySem.W.subIn K (.ref a_GroupError) (.ref a_GroupError) = some true)
    (su_BadGrouping_GroupError : PySem.W.subIn K (.ref a_BadGrouping) (.ref a_GroupError) = some true)
    (su_BadNumber_GroupError : PySem.W.subIn K (.ref a_BadNumber) (.ref a_GroupError) = some true)
    (su_BadPairs_GroupError : PySem.W.subIn K (.ref a_BadPairs) (.ref a_GroupError) = some true)
    (su_BadText_GroupError : PySem.W.subIn K (.ref a_BadText) (.ref a_GroupError) = some true)
    (su_NotFound_GroupError : PySem.W.subIn K (.ref a_NotFound) (.ref a_GroupError) = some true)
    (en_ : PySem.W.specialIn K (.builtin "object.__class__") "__get__" = some (some (.builtin "getset_descriptor.__get__"))) (et_ : PySem.W.takesIn K (.builtin "object.__class__") = some true)
    (eg_BadGrouping : PySem.W.findIn K (.ref a_BadGrouping) "__getattribute__" = some (some (.builtin "BaseException.__getattribute__"))) (ek_BadGrouping : PySem.W.findIn K (.ref a_BadGrouping) "__getattr__" = some none) (ed_BadGrouping : PySem.W.hasDictIn K a_BadGrouping = true) (ea_BadGrouping : PySem.W.findIn K (.ref a_BadGrouping) "__class__" = some (some (.builtin "object.__class__"))) (em_BadGrouping : PySem.W.mroIn K a_BadGrouping (.type "object") = some true) (is_BadGrouping : PySem.W.isClsIn K a_BadGrouping = true)
    (su_BadGrouping_BadPairs : PySem.W.subIn K (.ref a_BadGrouping) (.ref a_BadPairs) = some false)
    (su_BadGrouping_BadNumber : PySem.W.subIn K (.ref a_BadGrouping) (.ref a_BadNumber) = some false)
    (su_BadGrouping_BadGrouping : PySem.W.subIn K (.ref a_BadGrouping) (.ref a_BadGrouping) = some true)
    (su_BadGrouping_NotFound : PySem.W.subIn K (.ref a_BadGrouping) (.ref a_NotFound) = some false)
    (su_BadGrouping_BadText : PySem.W.subIn K (.ref a_BadGrouping) (.ref a_BadText) = some false)
    (sv_BadGrouping : PySem.W.subIn K (.ref a_BadGrouping) (.type "ValueError") = some true)
    (eg_BadNumber : PySem.W.findIn K (.ref a_BadNumber) "__getattribute__" = some (some (.builtin "BaseException.__getattribute__"))) (ek_BadNumber : PySem.W.findIn K (.ref a_BadNumber) "__getattr__" = some none) (ed_BadNumber : PySem.W.hasDictIn K a_BadNumber = true) (ea_BadNumber : PySem.W.findIn K (.ref a_BadNumber) "__class__" = some (some (.builtin "object.__class__"))) (em_BadNumber : PySem.W.mroIn K a_BadNumber (.type "object") = some true) (is_BadNumber : PySem.W.isClsIn K a_BadNumber = true)
    (su_BadNumber_BadPairs : PySem.W.subIn K (.ref a_BadNumber) (.ref a_BadPairs) = some false)
    (su_BadNumber_BadNumber : PySem.W.subIn K (.ref a_BadNumber) (.ref a_BadNumber) = some true)
    (su_BadNumber_BadGrouping : PySem.W.subIn K (.ref a_BadNumber) (.ref a_BadGrouping) = some false)
    (su_BadNumber_NotFound : PySem.W.subIn K (.ref a_BadNumber) (.ref a_NotFound) = some false)
    (su_BadNumber_BadText : PySem.W.subIn K (.ref a_BadNumber) (.ref a_BadText) = some false)
    (sv_BadNumber : PySem.W.subIn K (.ref a_BadNumber) (.type "ValueError") = some true)
    (eg_BadPairs : PySem.W.findIn K (.ref a_BadPairs) "__getattribute__" = some (some (.builtin "BaseException.__getattribute__"))) (ek_BadPairs : PySem.W.findIn K (.ref a_BadPairs) "__getattr__" = some none) (ed_BadPairs : PySem.W.hasDictIn K a_BadPairs = true) (ea_BadPairs : PySem.W.findIn K (.ref a_BadPairs) "__class__" = some (some (.builtin "object.__class__"))) (em_BadPairs : PySem.W.mroIn K a_BadPairs (.type "object") = some true) (is_BadPairs : PySem.W.isClsIn K a_BadPairs = true)
    (su_BadPairs_BadPairs : PySem.W.subIn K (.ref a_BadPairs) (.ref a_BadPairs) = some true)
    (su_BadPairs_BadNumber : PySem.W.subIn K (.ref a_BadPairs) (.ref a_BadNumber) = some false)
    (su_BadPairs_BadGrouping : PySem.W.subIn K (.ref a_BadPairs) (.ref a_BadGrouping) = some false)
    (su_BadPairs_NotFound : PySem.W.subIn K (.ref a_BadPairs) (.ref a_NotFound) = some false)
    (su_BadPairs_BadText : PySem.W.subIn K (.ref a_BadPairs) (.ref a_BadText) = some false)
    (sv_BadPairs : PySem.W.subIn K (.ref a_BadPairs) (.type "ValueError") = some true)
    (eg_BadText : PySem.W.findIn K (.ref a_BadText) "__getattribute__" = some (some (.builtin "BaseException.__getattribute__"))) (ek_BadText : PySem.W.findIn K (.ref a_BadText) "__getattr__" = some none) (ed_BadText : PySem.W.hasDictIn K a_BadText = true) (ea_BadText : PySem.W.findIn K (.ref a_BadText) "__class__" = some (some (.builtin "object.__class__"))) (em_BadText : PySem.W.mroIn K a_BadText (.type "object") = some true) (is_BadText : PySem.W.isClsIn K a_BadText = true)
    (su_BadText_BadPairs : PySem.W.subIn K (.ref a_BadText) (.ref a_BadPairs) = some false)
    (su_BadText_BadNumber : PySem.W.subIn K (.ref a_BadText) (.ref a_BadNumber) = some false)
    (su_BadText_BadGrouping : PySem.W.subIn K (.ref a_BadText) (.ref a_BadGrouping) = some false)
    (su_BadText_NotFound : PySem.W.subIn K (.ref a_BadText) (.ref a_NotFound) = some false)
    (su_BadText_BadText : PySem.W.subIn K (.ref a_BadText) (.ref a_BadText) = some true)
    (sv_BadText : PySem.W.subIn K (.ref a_BadText) (.type "ValueError") = some true)
    (eg_NotFound : PySem.W.findIn K (.ref a_NotFound) "__getattribute__" = some (some (.builtin "BaseException.__getattribute__"))) (ek_NotFound : PySem.W.findIn K (.ref a_NotFound) "__getattr__" = some none) (ed_NotFound : PySem.W.hasDictIn K a_NotFound = true) (ea_NotFound : PySem.W.findIn K (.ref a_NotFound) "__class__" = some (some (.builtin "object.__class__"))) (em_NotFound : PySem.W.mroIn K a_NotFound (.type "object") = some true) (is_NotFound : PySem.W.isClsIn K a_NotFound = true)
    (su_NotFound_BadPairs : PySem.W.subIn K (.ref a_NotFound) (.ref a_BadPairs) = some false)
    (su_NotFound_BadNumber : PySem.W.subIn K (.ref a_NotFound) (.ref a_BadNumber) = some false)
    (su_NotFound_BadGrouping : PySem.W.subIn K (.ref a_NotFound) (.ref a_BadGrouping) = some false)
    (su_NotFound_NotFound : PySem.W.subIn K (.ref a_NotFound) (.ref a_NotFound) = some true)
    (su_NotFound_BadText : PySem.W.subIn K (.ref a_NotFound) (.ref a_BadText) = some false)
    (sv_NotFound : PySem.W.subIn K (.ref a_NotFound) (.type "ValueError") = some true)
    (z_ValueError : PySem.W.nsIn K mainGlobals "ValueError" = some none)
    : ∃ fd : FuncData, (∀ (s : Shared) (v : Value), BindsTo s fd ⟨[v], []⟩ [("_law_script", v)]) ∧ ∀ base : Heap, K.In base → base.Ns mainGlobals mg → FnOk P w K mg base (L2.CX P w) 5 fa fd ["_law_script"] (spLaw K) := by
  have e := hfa.symm.trans (PySem.W.mg_of X G p_law)
  cases e
  have B : Blt mg := ⟨PySem.W.mg_none_of X G z_len, PySem.W.mg_none_of X G z_list, PySem.W.mg_none_of X G z_isinstance, PySem.W.mg_none_of X G z_bool, PySem.W.mg_none_of X G z_int, PySem.W.mg_none_of X G z_all, PySem.W.mg_none_of X G z_tuple, PySem.W.mg_none_of X G z_range, PySem.W.mg_none_of X G z_min, PySem.W.mg_none_of X G z_zip⟩
  have C : Cst mg := ⟨⟨_, PySem.W.mg_of X G v_MOST_THINGS⟩, trivial⟩
  letI : Ec := ⟨ecOf [("BadNumber", a_BadNumber), ("BadPairs", a_BadPairs), ("NotFound", a_NotFound), ("BadGrouping", a_BadGrouping), ("BadText", a_BadText)]⟩
  let κ : Kn := ⟨0⟩
  have X_BadNumber : Exk K mg κ "BadNumber" := ⟨PySem.W.mg_of X G g_BadNumber, x_BadNumber, h_BadNumber, b_BadNumber, y_BadNumber⟩
  have X_BadPairs : Exk K mg κ "BadPairs" := ⟨PySem.W.mg_of X G g_BadPairs, x_BadPairs, h_BadPairs, b_BadPairs, y_BadPairs⟩
  have X_NotFound : Exk K mg κ "NotFound" := ⟨PySem.W.mg_of X G g_NotFound, x_NotFound, h_NotFound, b_NotFound, y_NotFound⟩
  have X_BadGrouping : Exk K mg κ "BadGrouping" := ⟨PySem.W.mg_of X G g_BadGrouping, x_BadGrouping, h_BadGrouping, b_BadGrouping, y_BadGrouping⟩
  have X_BadText : Exk K mg κ "BadText" := ⟨PySem.W.mg_of X G g_BadText, x_BadText, h_BadText, b_BadText, y_BadText⟩
  have EX : ∀ c ∈ errs, L2.ExcC K (Ec.ec c) := errs_all ⟨eg_BadGrouping, ek_BadGrouping, b_BadGrouping, ed_BadGrouping, ea_BadGrouping, en_, et_, em_BadGrouping⟩ ⟨eg_BadNumber, ek_BadNumber, b_BadNumber, ed_BadNumber, ea_BadNumber, en_, et_, em_BadNumber⟩ ⟨eg_BadPairs, ek_BadPairs, b_BadPairs, ed_BadPairs, ea_BadPairs, en_, et_, em_BadPairs⟩ ⟨eg_BadText, ek_BadText, b_BadText, ed_BadText, ea_BadText, en_, et_, em_BadText⟩ ⟨eg_NotFound, ek_NotFound, b_NotFound, ed_NotFound, ea_NotFound, en_, et_, em_NotFound⟩
  have Q : Erf K mg := ⟨⟨a_BadPairs, PySem.W.mg_of X G g_BadPairs, EX, errs_all (kit_own is_BadPairs y_BadPairs su_BadPairs_BadPairs su_BadGrouping_BadPairs) (kit_own is_BadPairs y_BadPairs su_BadPairs_BadPairs su_BadNumber_BadPairs) (kit_own is_BadPairs y_BadPairs su_BadPairs_BadPairs su_BadPairs_BadPairs) (kit_own is_BadPairs y_BadPairs su_BadPairs_BadPairs su_BadText_BadPairs) (kit_own is_BadPairs y_BadPairs su_BadPairs_BadPairs su_NotFound_BadPairs)⟩, ⟨a_BadNumber, PySem.W.mg_of X G g_BadNumber, EX, errs_all (kit_own is_BadNumber y_BadNumber su_BadNumber_BadNumber su_BadGrouping_BadNumber) (kit_own is_BadNumber y_BadNumber su_BadNumber_BadNumber su_BadNumber_BadNumber) (kit_own is_BadNumber y_BadNumber su_BadNumber_BadNumber su_BadPairs_BadNumber) (kit_own is_BadNumber y_BadNumber su_BadNumber_BadNumber su_BadText_BadNumber) (kit_own is_BadNumber y_BadNumber su_BadNumber_BadNumber su_NotFound_BadNumber)⟩, ⟨a_BadGrouping, PySem.W.mg_of X G g_BadGrouping, EX, errs_all (kit_own is_BadGrouping y_BadGrouping su_BadGrouping_BadGrouping su_BadGrouping_BadGrouping) (kit_own is_BadGrouping y_BadGrouping su_BadGrouping_BadGrouping su_BadNumber_BadGrouping) (kit_own is_BadGrouping y_BadGrouping su_BadGrouping_BadGrouping su_BadPairs_BadGrouping) (kit_own is_BadGrouping y_BadGrouping su_BadGrouping_BadGrouping su_BadText_BadGrouping) (kit_own is_BadGrouping y_BadGrouping su_BadGrouping_BadGrouping su_NotFound_BadGrouping)⟩, ⟨a_NotFound, PySem.W.mg_of X G g_NotFound, EX, errs_all (kit_own is_NotFound y_NotFound su_NotFound_NotFound su_BadGrouping_NotFound) (kit_own is_NotFound y_NotFound su_NotFound_NotFound su_BadNumber_NotFound) (kit_own is_NotFound y_NotFound su_NotFound_NotFound su_BadPairs_NotFound) (kit_own is_NotFound y_NotFound su_NotFound_NotFound su_BadText_NotFound) (kit_own is_NotFound y_NotFound su_NotFound_NotFound su_NotFound_NotFound)⟩, ⟨a_BadText, PySem.W.mg_of X G g_BadText, EX, errs_all (kit_own is_BadText y_BadText su_BadText_BadText su_BadGrouping_BadText) (kit_own is_BadText y_BadText su_BadText_BadText su_BadNumber_BadText) (kit_own is_BadText y_BadText su_BadText_BadText su_BadPairs_BadText) (kit_own is_BadText y_BadText su_BadText_BadText su_BadText_BadText) (kit_own is_BadText y_BadText su_BadText_BadText su_NotFound_BadText)⟩, ⟨PySem.W.mg_none_of X G z_ValueError, EX, errs_all (kit_blt (by decide +kernel) sv_BadGrouping) (kit_blt (by decide +kernel) sv_BadNumber) (kit_blt (by decide +kernel) sv_BadPairs) (kit_blt (by decide +kernel) sv_BadText) (kit_blt (by decide +kernel) sv_NotFound)⟩, ⟨a_GroupError, PySem.W.mg_of X G g_GroupError, EX, errs_all (kit_own is_GroupError y_GroupError su_GroupError_GroupError su_BadGrouping_GroupError) (kit_own is_GroupError y_GroupError su_GroupError_GroupError su_BadNumber_GroupError) (kit_own is_GroupError y_GroupError su_GroupError_GroupError su_BadPairs_GroupError) (kit_own is_GroupError y_GroupError su_GroupError_GroupError su_BadText_GroupError) (kit_own is_GroupError y_GroupError su_GroupError_GroupError su_NotFound_GroupError)⟩, ⟨a_GroupError, PySem.W.mg_of X G g_GroupError, errs_all (exm_own b_GroupError is_GroupError y_GroupError su_BadGrouping_GroupError) (exm_own b_GroupError is_GroupError y_GroupError su_BadNumber_GroupError) (exm_own b_GroupError is_GroupError y_GroupError su_BadPairs_GroupError) (exm_own b_GroupError is_GroupError y_GroupError su_BadText_GroupError) (exm_own b_GroupError is_GroupError y_GroupError su_NotFound_GroupError)⟩⟩
  have F_is_int := fun_mk (st := s_is_int) l_is_int c_is_int k_is_int
  have b_is_int := F_is_int.binds (ps := ["value", "low", "high"]) fun _ _ _ _ _ _ us hl => match us, hl with | [_, _, _], _ => rfl
  have F_check_size := fun_mk (st := s_check_size) l_check_size c_check_size k_check_size
  have b_check_size := F_check_size.binds (ps := ["value"]) fun _ _ _ _ _ _ us hl => match us, hl with | [_], _ => rfl
  have F_numbered := fun_mk (st := s_numbered) l_numbered c_numbered k_numbered
  have b_numbered := F_numbered.binds (ps := ["labels"]) fun _ _ _ _ _ _ us hl => match us, hl with | [_], _ => rfl
  have F_check_pairs := fun_mk (st := s_check_pairs) l_check_pairs c_check_pairs k_check_pairs
  have b_check_pairs := F_check_pairs.binds (ps := ["size", "pairs"]) fun _ _ _ _ _ _ us hl => match us, hl with | [_, _], _ => rfl
  have F_check_wishes := fun_mk (st := s_check_wishes) l_check_wishes c_check_wishes k_check_wishes
  have b_check_wishes := F_check_wishes.binds (ps := ["size", "near", "apart"]) fun _ _ _ _ _ _ us hl => match us, hl with | [_, _, _], _ => rfl
  have F_chained := fun_mk (st := s_chained) l_chained c_chained k_chained
  have b_chained := F_chained.binds (ps := ["size", "near"]) fun _ _ _ _ _ _ us hl => match us, hl with | [_, _], _ => rfl
  have F_chains := fun_mk (st := s_chains) l_chains c_chains k_chains
  have b_chains := F_chains.binds (ps := ["size", "near"]) fun _ _ _ _ _ _ us hl => match us, hl with | [_, _], _ => rfl
  have F_can_be := fun_mk (st := s_can_be) l_can_be c_can_be k_can_be
  have b_can_be := F_can_be.binds (ps := ["size", "near", "apart"]) fun _ _ _ _ _ _ us hl => match us, hl with | [_, _, _], _ => rfl
  have F_first_against := fun_mk (st := s_first_against) l_first_against c_first_against k_first_against
  have b_first_against := F_first_against.binds (ps := ["size", "near", "apart"]) fun _ _ _ _ _ _ us hl => match us, hl with | [_, _, _], _ => rfl
  have F_shortest_chain := fun_mk (st := s_shortest_chain) l_shortest_chain c_shortest_chain k_shortest_chain
  have b_shortest_chain := F_shortest_chain.binds (ps := ["size", "near", "first", "last"]) fun _ _ _ _ _ _ us hl => match us, hl with | [_, _, _, _], _ => rfl
  have F__law_start := fun_mk (st := s__law_start) l__law_start c__law_start k__law_start
  have b__law_start := F__law_start.binds (ps := ["_law_script"]) fun _ _ _ _ _ _ us hl => match us, hl with | [_], _ => rfl
  have F__law_draw := fun_mk (st := s__law_draw) l__law_draw c__law_draw k__law_draw
  have b__law_draw := F__law_draw.binds (ps := ["_law_draws", "_law_limit"]) fun _ _ _ _ _ _ us hl => match us, hl with | [_, _], _ => rfl
  have F__law_error := fun_mk (st := s__law_error) l__law_error c__law_error k__law_error
  have b__law_error := F__law_error.binds (ps := ["_law_caught"]) fun _ _ _ _ _ _ us hl => match us, hl with | [_], _ => rfl
  have F__law_chain := fun_mk (st := s__law_chain) l__law_chain c__law_chain k__law_chain
  have b__law_chain := F__law_chain.binds (ps := ["_law_size", "_law_close", "_law_first", "_law_last"]) fun _ _ _ _ _ _ us hl => match us, hl with | [_, _, _, _], _ => rfl
  have F_law := fun_mk (st := s_law) l_law c_law k_law
  refine ⟨PySem.W.fnOf "law" "law" (defArgs s_law) (defBody s_law) (defScope s_law) .none kV_law dc_law pm_law an_law cd_law ct_law, fun s v => .of_eq rfl, fun base _ _ => ?_⟩
  have G__law_start : FnOk P w K mg base CX0 1 _ _ ["_law_script"] (spStart K) := ok__law_start F__law_start B
  have c__law_draw : Cal P w K mg base κ "_law_draw" 1 2 m__law_draw := ok__law_draw F__law_draw (PySem.W.mg_of X G p__law_draw) b__law_draw B
  have c_is_int : Cal P w K mg base κ "is_int" 1 3 m_is_int := ok_is_int F_is_int (PySem.W.mg_of X G p_is_int) b_is_int B
  have c_check_size : Cal P w K mg base κ "check_size" 2 1 m_check_size := ok_check_size F_check_size (PySem.W.mg_of X G p_check_size) b_check_size c_is_int C X_BadNumber
  have c_numbered : Cal P w K mg base κ "numbered" 1 1 m_numbered := ok_numbered F_numbered (PySem.W.mg_of X G p_numbered) b_numbered
  have c_check_pairs : Cal P w K mg base κ "check_pairs" 2 2 m_check_pairs := ok_check_pairs F_check_pairs (PySem.W.mg_of X G p_check_pairs) b_check_pairs c_is_int B X_BadPairs
  have c_check_wishes : Cal P w K mg base κ "check_wishes" 3 3 m_check_wishes := ok_check_wishes F_check_wishes (PySem.W.mg_of X G p_check_wishes) b_check_wishes c_check_size c_check_pairs
  have c_chained : Cal P w K mg base κ "chained" 2 2 m_chained := ok_chained F_chained (PySem.W.mg_of X G p_chained) b_chained c_numbered B
  have c_chains : Cal P w K mg base κ "chains" 3 2 m_chains := ok_chains F_chains (PySem.W.mg_of X G p_chains) b_chains c_check_size c_check_pairs c_chained
  have c_can_be : Cal P w K mg base κ "can_be" 4 3 m_can_be := ok_can_be F_can_be (PySem.W.mg_of X G p_can_be) b_can_be c_check_wishes c_chained B
  have c_first_against : Cal P w K mg base κ "first_against" 4 3 m_first_against := ok_first_against F_first_against (PySem.W.mg_of X G p_first_against) b_first_against c_check_wishes c_chained
  have c_shortest_chain : Cal P w K mg base κ "shortest_chain" 3 4 m_shortest_chain := ok_shortest_chain F_shortest_chain (PySem.W.mg_of X G p_shortest_chain) b_shortest_chain c_check_size c_check_pairs B X_NotFound
  have c__law_error : Cal P w K mg base κ "_law_error" 1 1 m__law_error := ok__law_error F__law_error (PySem.W.mg_of X G p__law_error) b__law_error B Q
  have c__law_chain : Cal P w K mg base κ "_law_chain" 4 4 m__law_chain := ok__law_chain F__law_chain (PySem.W.mg_of X G p__law_chain) b__law_chain c_shortest_chain c__law_error Q
  exact ok_law F_law G__law_start (PySem.W.mg_of X G p__law_start) F__law_start.kp b__law_start pure c__law_draw c__law_chain c_chains c_can_be c_first_against B
end Pg
open PySem PySem.W PyProof.Rows
set_option maxHeartbeats 0 in
theorem PySem.Challenge.cw_groupsapart_k09_whole_chains_holds : PySem.Challenge.rw_groupsapart_k09_whole_chains.Holds := by
  w_on; o_law; k_head; (case hw => w_witness2)
  k_fill
  refine L2.walk_of (l := PySem.Challenge.rw_groupsapart_k09_whole_chains) (n := 63) (k := 5) (x := "_law_script") (CX := fun w => L2.CX PySem.Challenge.rw_groupsapart_k09_whole_chains.prog w) (sp := fun w => DL.spLaw _) rfl (by decide) rfl ⟨rfl, by decide, by decide⟩ (fun w h Y => PySem.W.kIn_of Y) ?F (fun _ _ a ns hl _ hS => ⟨a, ns, rfl, hS, hl, fun _ _ e => e⟩) (fun w H s e s' h => DL.cx_no w H s e s' h)
  case F =>
    intro w mg fa h KX G hmg
    refine' Pg.all_mk Pg.pure_law KX G hmg ?p_is_int ?l_is_int ?c_is_int ?k_is_int ?p_check_size ?l_check_size ?c_check_size ?k_check_size ?p_numbered ?l_numbered ?c_numbered ?k_numbered ?p_check_pairs ?l_check_pairs ?c_check_pairs ?k_check_pairs ?p_check_wishes ?l_check_wishes ?c_check_wishes ?k_check_wishes ?p_chained ?l_chained ?c_chained ?k_chained ?p_chains ?l_chains ?c_chains ?k_chains ?p_can_be ?l_can_be ?c_can_be ?k_can_be ?p_first_against ?l_first_against ?c_first_against ?k_first_against ?p_shortest_chain ?l_shortest_chain ?c_shortest_chain ?k_shortest_chain ?p__law_start ?l__law_start ?c__law_start ?k__law_start ?p__law_draw ?l__law_draw ?c__law_draw ?k__law_draw ?p__law_error ?l__law_error ?c__law_error ?k__law_error ?p__law_chain ?l__law_chain ?c__law_chain ?k__law_chain ?p_law ?l_law ?c_law ?k_law ?g_BadNumber ?x_BadNumber ?h_BadNumber ?b_BadNumber ?y_BadNumber ?g_BadPairs ?x_BadPairs ?h_BadPairs ?b_BadPairs ?y_BadPairs ?g_NotFound ?x_NotFound ?h_NotFound ?b_NotFound ?y_NotFound ?g_BadGrouping ?x_BadGrouping ?h_BadGrouping ?b_BadGrouping ?y_BadGrouping ?g_BadText ?x_BadText ?h_BadText ?b_BadText ?y_BadText ?v_MOST_THINGS ?z_len ?z_list ?z_isinstance ?z_bool ?z_int ?z_all ?z_tuple ?z_range ?z_min ?z_zip ?g_GroupError ?b_GroupError ?y_GroupError ?is_GroupError ?su_GroupError_GroupError ?su_BadGrouping_GroupError ?su_BadNumber_GroupError ?su_BadPairs_GroupError ?su_BadText_GroupError ?su_NotFound_GroupError ?en_ ?et_ ?eg_BadGrouping ?ek_BadGrouping ?ed_BadGrouping ?ea_BadGrouping ?em_BadGrouping ?is_BadGrouping ?su_BadGrouping_BadPairs ?su_BadGrouping_BadNumber ?su_BadGrouping_BadGrouping ?su_BadGrouping_NotFound ?su_BadGrouping_BadText ?sv_BadGrouping ?eg_BadNumber ?ek_BadNumber ?ed_BadNumber ?ea_BadNumber ?em_BadNumber ?is_BadNumber ?su_BadNumber_BadPairs ?su_BadNumber_BadNumber ?su_BadNumber_BadGrouping ?su_BadNumber_NotFound ?su_BadNumber_BadText ?sv_BadNumber ?eg_BadPairs ?ek_BadPairs ?ed_BadPairs ?ea_BadPairs ?em_BadPairs ?is_BadPairs ?su_BadPairs_BadPairs ?su_BadPairs_BadNumber ?su_BadPairs_BadGrouping ?su_BadPairs_NotFound ?su_BadPairs_BadText ?sv_BadPairs ?eg_BadText ?ek_BadText ?ed_BadText ?ea_BadText ?em_BadText ?is_BadText ?su_BadText_BadPairs ?su_BadText_BadNumber ?su_BadText_BadGrouping ?su_BadText_NotFound ?su_BadText_BadText ?sv_BadText ?eg_NotFound ?ek_NotFound ?ed_NotFound ?ea_NotFound ?em_NotFound ?is_NotFound ?su_NotFound_BadPairs ?su_NotFound_BadNumber ?su_NotFound_BadGrouping ?su_NotFound_NotFound ?su_NotFound_BadText ?sv_NotFound ?z_ValueError
    (case p_is_int => k_is)
    (case l_is_int => k_is)
    (case c_is_int => k_is)
    (case k_is_int => k_is)
    (case p_check_size => k_is)
    (case l_check_size => k_is)
    (case c_check_size => k_is)
    (case k_check_size => k_is)
    (case p_numbered => k_is)
    (case l_numbered => k_is)
    (case c_numbered => k_is)
    (case k_numbered => k_is)
    (case p_check_pairs => k_is)
    (case l_check_pairs => k_is)
    (case c_check_pairs => k_is)
    (case k_check_pairs => k_is)
    (case p_check_wishes => k_is)
    (case l_check_wishes => k_is)
    (case c_check_wishes => k_is)
    (case k_check_wishes => k_is)
    (case p_chained => k_is)
    (case l_chained => k_is)
    (case c_chained => k_is)
    (case k_chained => k_is)
    (case p_chains => k_is)
    (case l_chains => k_is)
    (case c_chains => k_is)
    (case k_chains => k_is)
    (case p_can_be => k_is)
    (case l_can_be => k_is)
    (case c_can_be => k_is)
    (case k_can_be => k_is)
    (case p_first_against => k_is)
    (case l_first_against => k_is)
    (case c_first_against => k_is)
    (case k_first_against => k_is)
    (case p_shortest_chain => k_is)
    (case l_shortest_chain => k_is)
    (case c_shortest_chain => k_is)
    (case k_shortest_chain => k_is)
    (case p__law_start => k_is)
    (case l__law_start => k_is)
    (case c__law_start => k_is)
    (case k__law_start => k_is)
    (case p__law_draw => k_is)
    (case l__law_draw => k_is)
    (case c__law_draw => k_is)
    (case k__law_draw => k_is)
    (case p__law_error => k_is)
    (case l__law_error => k_is)
    (case c__law_error => k_is)
    (case k__law_error => k_is)
    (case p__law_chain => k_is)
    (case l__law_chain => k_is)
    (case c__law_chain => k_is)
    (case k__law_chain => k_is)
    (case p_law => k_is)
    (case l_law => k_is)
    (case c_law => k_is)
    (case k_law => k_is)
    (case g_BadNumber => k_is)
    (case x_BadNumber => k_exc)
    (case h_BadNumber => k_is)
    (case b_BadNumber => k_is)
    (case y_BadNumber => k_is)
    (case g_BadPairs => k_is)
    (case x_BadPairs => k_exc)
    (case h_BadPairs => k_is)
    (case b_BadPairs => k_is)
    (case y_BadPairs => k_is)
    (case g_NotFound => k_is)
    (case x_NotFound => k_exc)
    (case h_NotFound => k_is)
    (case b_NotFound => k_is)
    (case y_NotFound => k_is)
    (case g_BadGrouping => k_is)
    (case x_BadGrouping => k_exc)
    (case h_BadGrouping => k_is)
    (case b_BadGrouping => k_is)
    (case y_BadGrouping => k_is)
    (case g_BadText => k_is)
    (case x_BadText => k_exc)
    (case h_BadText => k_is)
    (case b_BadText => k_is)
    (case y_BadText => k_is)
    (case v_MOST_THINGS => k_is)
    (case z_len => k_is)
    (case z_list => k_is)
    (case z_isinstance => k_is)
    (case z_bool => k_is)
    (case z_int => k_is)
    (case z_all => k_is)
    (case z_tuple => k_is)
    (case z_range => k_is)
    (case z_min => k_is)
    (case z_zip => k_is)
    (case g_GroupError => k_is)
    (case b_GroupError => k_is)
    (case y_GroupError => k_is)
    (case is_GroupError => k_is)
    (case su_GroupError_GroupError => k_is)
    (case su_BadGrouping_GroupError => k_is)
    (case su_BadNumber_GroupError => k_is)
    (case su_BadPairs_GroupError => k_is)
    (case su_BadText_GroupError => k_is)
    (case su_NotFound_GroupError => k_is)
    (case en_ => k_is)
    (case et_ => k_is)
    (case eg_BadGrouping => k_is)
    (case ek_BadGrouping => k_is)
    (case ed_BadGrouping => k_is)
    (case ea_BadGrouping => k_is)
    (case em_BadGrouping => k_is)
    (case is_BadGrouping => k_is)
    (case su_BadGrouping_BadPairs => k_is)
    (case su_BadGrouping_BadNumber => k_is)
    (case su_BadGrouping_BadGrouping => k_is)
    (case su_BadGrouping_NotFound => k_is)
    (case su_BadGrouping_BadText => k_is)
    (case sv_BadGrouping => k_is)
    (case eg_BadNumber => k_is)
    (case ek_BadNumber => k_is)
    (case ed_BadNumber => k_is)
    (case ea_BadNumber => k_is)
    (case em_BadNumber => k_is)
    (case is_BadNumber => k_is)
    (case su_BadNumber_BadPairs => k_is)
    (case su_BadNumber_BadNumber => k_is)
    (case su_BadNumber_BadGrouping => k_is)
    (case su_BadNumber_NotFound => k_is)
    (case su_BadNumber_BadText => k_is)
    (case sv_BadNumber => k_is)
    (case eg_BadPairs => k_is)
    (case ek_BadPairs => k_is)
    (case ed_BadPairs => k_is)
    (case ea_BadPairs => k_is)
    (case em_BadPairs => k_is)
    (case is_BadPairs => k_is)
    (case su_BadPairs_BadPairs => k_is)
    (case su_BadPairs_BadNumber => k_is)
    (case su_BadPairs_BadGrouping => k_is)
    (case su_BadPairs_NotFound => k_is)
    (case su_BadPairs_BadText => k_is)
    (case sv_BadPairs => k_is)
    (case eg_BadText => k_is)
    (case ek_BadText => k_is)
    (case ed_BadText => k_is)
    (case ea_BadText => k_is)
    (case em_BadText => k_is)
    (case is_BadText => k_is)
    (case su_BadText_BadPairs => k_is)
    (case su_BadText_BadNumber => k_is)
    (case su_BadText_BadGrouping => k_is)
    (case su_BadText_NotFound => k_is)
    (case su_BadText_BadText => k_is)
    (case sv_BadText => k_is)
    (case eg_NotFound => k_is)
    (case ek_NotFound => k_is)
    (case ed_NotFound => k_is)
    (case ea_NotFound => k_is)
    (case em_NotFound => k_is)
    (case is_NotFound => k_is)
    (case su_NotFound_BadPairs => k_is)
    (case su_NotFound_BadNumber => k_is)
    (case su_NotFound_BadGrouping => k_is)
    (case su_NotFound_NotFound => k_is)
    (case su_NotFound_BadText => k_is)
    (case sv_NotFound => k_is)
    (case z_ValueError => k_is)

